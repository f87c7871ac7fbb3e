/-
  Each function comes to what its function of plain Lean says, printed by a program of the session; with contracts written by hand at the head. No condition.
-/
import Derived.Test.YtngioelenknhkaaTp
import Derived.Test.YtngioelenknhkaaSh
set_option linter.unusedSimpArgs false
set_option linter.unnecessarySimpa false
set_option linter.unusedSectionVars false
set_option linter.unusedVariables false
set_option maxRecDepth 100000
set_option maxHeartbeats 4000000
namespace Go.Eng
open Go

section
variable {N : Nums} {P : Program} (H : AllOk N P)
include H

theorem bits_c (x : Nat) (w : World) : CallsX P N.f_math_Float64bits #[.float .f64 x] w fun v w' => v = .int .u64 x ∧ St w w' [] :=
  H.math_Float64bits x w _ ⟨rfl, St.refl _⟩

theorem abs_c (x : Nat) (w : World) : CallsX P N.f_math_Abs #[.float .f64 x] w fun v w' => v = .float .f64 (magF x) ∧ St w w' [] := by
  refine H.math_Abs x w _ ?_
  unfold S_math_Abs
  refine (bits_c H x w).mono ?_
  rintro _ w1 ⟨rfl, h1⟩
  refine ⟨_, rfl, ?_⟩
  refine H.math_Float64frombits _ w1 _ ?_
  rw [abs_bits]
  exact ⟨_, rfl, rfl, h1⟩

theorem isNaN_c (x : Nat) (w : World) : CallsX P N.f_math_IsNaN #[.float .f64 x] w fun v w' => v = .bool (isNaN x) ∧ St w w' [] := by
  refine H.math_IsNaN x w _ ?_
  refine ⟨?_, St.refl w⟩
  rw [feq_self]; simp

theorem vsame_c {w : World} {a b : Option Addr} {n c m d : Nat} {l k : List Nat} (ha : Reals w a n c l) (hb : Reals w b m d k) (hn : n ≤ 4294967296) :
    CallsX P N.f_vector_Same #[.slice a n c, .slice b m d] w fun v w' => v = .bool (l.map nf == k.map nf) ∧ St w w' [] := by
  refine H.vector_Same a n c b m d w _ ?_
  unfold S_vector_Same
  have la := ha.len
  have lb := hb.len
  refine cond_i (fun h => ?_) (fun h => ?_)
  · refine ⟨?_, St.refl _⟩
    congr 1
    have h' : n ≠ m := by simp at h; omega
    simp only [Bool.false_eq, beq_eq_false_iff_ne, ne_eq]
    intro e
    have := congrArg List.length e
    simp at this; omega
  · have hnm : n = m := by simp at h; omega
    subst hnm
    refine cutM_i (fun s w' => l.map nf = k.map nf ∧ St w w' []) (fun J hJ => ?_) (fun s w' ⟨h, hS⟩ => ⟨by simp [h], hS⟩)
    refine loopM_i (fun s w' => ∃ i : Nat, s.1 = (i : Int) ∧ i ≤ n ∧ (∀ j, j < i → nf (l.getD j 0) = nf (k.getD j 0)) ∧ St w w' []) (fun s => n - s.1.toNat) ⟨0, rfl, by omega, fun j h => by omega, St.refl w⟩ ?_
    rintro ⟨s, u⟩ w X ⟨i, hi, hin, hall, hS⟩ hX
    dsimp only at hi; subst hi
    refine cond_i (fun hb1 => ?_) (fun hb1 => ?_)
    · have hlt : i < n := by simpa using hb1
      have hadv : nf (l.getD i 0) = nf (k.getD i 0) → ∀ w', St _ w' [] → X (IntKind.i64.wrap ((i : Int) + 1), u) w' := fun he w' hS' => by
        refine hX _ _ ⟨i + 1, wrS hlt (by omega), by omega, fun j hj => ?_, hS'⟩ (by dsimp only; rw [wrS hlt (by omega)]; omega)
        by_cases e : j = i
        · subst e; exact he
        · exact hall j (by omega)
      have hbad : nf (l.getD i 0) ≠ nf (k.getD i 0) → (Value.bool false) = Value.bool (l.map nf == k.map nf) := fun he => by
        congr 1
        simp only [Bool.false_eq, beq_eq_false_iff_ne, ne_eq]
        intro e
        apply he
        have := congrArg (fun q => q.getD i 0) e
        simpa [List.getD_eq_getElem?_getD, show i < l.length by omega, show i < k.length by omega] using this
      obtain ⟨xa, rfl, hxa⟩ := ha.at_ i (by omega)
      obtain ⟨xb, rfl, hxb⟩ := hb.at_ i (by omega)
      dsimp only
      rw [Int.toNat_natCast, Nat.mul_one]
      refine ⟨by omega, by omega, optM_mk rfl ⟨_, hS.cell hxa, by omega, by omega, optM_mk rfl ⟨_, hS.cell hxb, ?_⟩⟩⟩
      (try simp only [List.cons_append, List.nil_append, List.append_assoc] at hS); (repeat (first | (with_reducible (refine ⟨_, hS.cell ‹_›, ?_⟩)) | (with_reducible (refine ⟨_, _, _, hS.cell ‹_›, ?_⟩)) | (with_reducible (refine ⟨hS.cell ‹_›, ?_⟩)) | ((with_reducible first | apply ldI hS | apply ldS hS | apply hldS hS | apply hldI hS | apply ldF hS | apply ldP hS | apply ldB hS | apply hldF hS); (case ha => exact rfl); (case he => (repeat (first | with_reducible exact List.mem_cons_self | with_reducible refine List.mem_cons_of_mem _ ?_))); (case hc => exact rfl)) | (guard_target = newM _ _ _ _; refine newM_i hS ?_; clear hS; intro _ w hS) | (guard_target = drM _ _; refine drM_i hS ?_; clear hS; intro w hS) | (guard_target = stM _ _ _ _; (first | refine st0 hS rfl rfl ?_ | refine st1 hS rfl rfl ?_ | refine st2 hS rfl rfl ?_ | refine st3 hS rfl rfl ?_ | refine st4 hS rfl rfl ?_ | refine st5 hS rfl rfl ?_ | refine st6 hS rfl rfl ?_ | refine st7 hS rfl rfl ?_); clear hS; intro w hS) | (guard_target = optM (some _) _; refine optM_mk rfl ?_)))
      refine (bits_c H _ _).mono ?_
      rintro _ w1 ⟨rfl, h1⟩
      replace hS := hS.next h1
      rw [List.nil_append] at hS
      refine ⟨_, rfl, hS.cell hxb, ?_⟩
      (try simp only [List.cons_append, List.nil_append, List.append_assoc] at hS); (repeat (first | (with_reducible (refine ⟨_, hS.cell ‹_›, ?_⟩)) | (with_reducible (refine ⟨_, _, _, hS.cell ‹_›, ?_⟩)) | (with_reducible (refine ⟨hS.cell ‹_›, ?_⟩)) | ((with_reducible first | apply ldI hS | apply ldS hS | apply hldS hS | apply hldI hS | apply ldF hS | apply ldP hS | apply ldB hS | apply hldF hS); (case ha => exact rfl); (case he => (repeat (first | with_reducible exact List.mem_cons_self | with_reducible refine List.mem_cons_of_mem _ ?_))); (case hc => exact rfl)) | (guard_target = newM _ _ _ _; refine newM_i hS ?_; clear hS; intro _ w hS) | (guard_target = drM _ _; refine drM_i hS ?_; clear hS; intro w hS) | (guard_target = stM _ _ _ _; (first | refine st0 hS rfl rfl ?_ | refine st1 hS rfl rfl ?_ | refine st2 hS rfl rfl ?_ | refine st3 hS rfl rfl ?_ | refine st4 hS rfl rfl ?_ | refine st5 hS rfl rfl ?_ | refine st6 hS rfl rfl ?_ | refine st7 hS rfl rfl ?_); clear hS; intro w hS) | (guard_target = optM (some _) _; refine optM_mk rfl ?_)))
      refine (bits_c H _ _).mono ?_
      rintro _ w2 ⟨rfl, h2⟩
      replace hS := hS.next h2
      rw [List.nil_append] at hS
      refine ⟨_, rfl, cond_i (fun hb2 => ?_) (fun hb2 => ?_)⟩
      · have hne : l.getD i 0 ≠ k.getD i 0 := fun e => by rw [e] at hb2; simp at hb2
        (try simp only [List.cons_append, List.nil_append, List.append_assoc] at hS); (repeat (first | (with_reducible (refine ⟨_, hS.cell ‹_›, ?_⟩)) | (with_reducible (refine ⟨_, _, _, hS.cell ‹_›, ?_⟩)) | (with_reducible (refine ⟨hS.cell ‹_›, ?_⟩)) | ((with_reducible first | apply ldI hS | apply ldS hS | apply hldS hS | apply hldI hS | apply ldF hS | apply ldP hS | apply ldB hS | apply hldF hS); (case ha => exact rfl); (case he => (repeat (first | with_reducible exact List.mem_cons_self | with_reducible refine List.mem_cons_of_mem _ ?_))); (case hc => exact rfl)) | (guard_target = newM _ _ _ _; refine newM_i hS ?_; clear hS; intro _ w hS) | (guard_target = drM _ _; refine drM_i hS ?_; clear hS; intro w hS) | (guard_target = stM _ _ _ _; (first | refine st0 hS rfl rfl ?_ | refine st1 hS rfl rfl ?_ | refine st2 hS rfl rfl ?_ | refine st3 hS rfl rfl ?_ | refine st4 hS rfl rfl ?_ | refine st5 hS rfl rfl ?_ | refine st6 hS rfl rfl ?_ | refine st7 hS rfl rfl ?_); clear hS; intro w hS) | (guard_target = optM (some _) _; refine optM_mk rfl ?_)))
        refine (isNaN_c H _ _).mono ?_
        rintro _ w3 ⟨rfl, h3⟩
        replace hS := hS.next h3
        rw [List.nil_append] at hS
        refine ⟨_, rfl, cond_i (fun hn1 => ?_) (fun hn1 => ?_)⟩
        · refine ⟨by omega, by omega, optM_mk rfl ⟨_, hS.cell hxb, ?_⟩⟩
          (try simp only [List.cons_append, List.nil_append, List.append_assoc] at hS); (repeat (first | (with_reducible (refine ⟨_, hS.cell ‹_›, ?_⟩)) | (with_reducible (refine ⟨_, _, _, hS.cell ‹_›, ?_⟩)) | (with_reducible (refine ⟨hS.cell ‹_›, ?_⟩)) | ((with_reducible first | apply ldI hS | apply ldS hS | apply hldS hS | apply hldI hS | apply ldF hS | apply ldP hS | apply ldB hS | apply hldF hS); (case ha => exact rfl); (case he => (repeat (first | with_reducible exact List.mem_cons_self | with_reducible refine List.mem_cons_of_mem _ ?_))); (case hc => exact rfl)) | (guard_target = newM _ _ _ _; refine newM_i hS ?_; clear hS; intro _ w hS) | (guard_target = drM _ _; refine drM_i hS ?_; clear hS; intro w hS) | (guard_target = stM _ _ _ _; (first | refine st0 hS rfl rfl ?_ | refine st1 hS rfl rfl ?_ | refine st2 hS rfl rfl ?_ | refine st3 hS rfl rfl ?_ | refine st4 hS rfl rfl ?_ | refine st5 hS rfl rfl ?_ | refine st6 hS rfl rfl ?_ | refine st7 hS rfl rfl ?_); clear hS; intro w hS) | (guard_target = optM (some _) _; refine optM_mk rfl ?_)))
          refine (isNaN_c H _ _).mono ?_
          rintro _ w4 ⟨rfl, h4⟩
          replace hS := hS.next h4
          rw [List.nil_append] at hS
          refine ⟨_, rfl, ?_⟩
          (try simp only [List.cons_append, List.nil_append, List.append_assoc] at hS); (repeat (first | (with_reducible (refine ⟨_, hS.cell ‹_›, ?_⟩)) | (with_reducible (refine ⟨_, _, _, hS.cell ‹_›, ?_⟩)) | (with_reducible (refine ⟨hS.cell ‹_›, ?_⟩)) | ((with_reducible first | apply ldI hS | apply ldS hS | apply hldS hS | apply hldI hS | apply ldF hS | apply ldP hS | apply ldB hS | apply hldF hS); (case ha => exact rfl); (case he => (repeat (first | with_reducible exact List.mem_cons_self | with_reducible refine List.mem_cons_of_mem _ ?_))); (case hc => exact rfl)) | (guard_target = newM _ _ _ _; refine newM_i hS ?_; clear hS; intro _ w hS) | (guard_target = drM _ _; refine drM_i hS ?_; clear hS; intro w hS) | (guard_target = stM _ _ _ _; (first | refine st0 hS rfl rfl ?_ | refine st1 hS rfl rfl ?_ | refine st2 hS rfl rfl ?_ | refine st3 hS rfl rfl ?_ | refine st4 hS rfl rfl ?_ | refine st5 hS rfl rfl ?_ | refine st6 hS rfl rfl ?_ | refine st7 hS rfl rfl ?_); clear hS; intro w hS) | (guard_target = optM (some _) _; refine optM_mk rfl ?_)))
          refine cond_i (fun hn2 => ?_) (fun hn2 => ?_)
          · simp only [Bool.not_eq_true'] at hn2
            exact ⟨hbad (fun e => by rcases nf_eq_iff.1 e with e | ⟨_, e⟩; exact hne e; rw [e] at hn2; cases hn2), hS⟩
          · simp only [Bool.not_eq_false'] at hn2
            exact hadv (nf_eq_iff.2 (.inr ⟨hn1, hn2⟩)) _ hS
        · (try simp only [List.cons_append, List.nil_append, List.append_assoc] at hS); (repeat (first | (with_reducible (refine ⟨_, hS.cell ‹_›, ?_⟩)) | (with_reducible (refine ⟨_, _, _, hS.cell ‹_›, ?_⟩)) | (with_reducible (refine ⟨hS.cell ‹_›, ?_⟩)) | ((with_reducible first | apply ldI hS | apply ldS hS | apply hldS hS | apply hldI hS | apply ldF hS | apply ldP hS | apply ldB hS | apply hldF hS); (case ha => exact rfl); (case he => (repeat (first | with_reducible exact List.mem_cons_self | with_reducible refine List.mem_cons_of_mem _ ?_))); (case hc => exact rfl)) | (guard_target = newM _ _ _ _; refine newM_i hS ?_; clear hS; intro _ w hS) | (guard_target = drM _ _; refine drM_i hS ?_; clear hS; intro w hS) | (guard_target = stM _ _ _ _; (first | refine st0 hS rfl rfl ?_ | refine st1 hS rfl rfl ?_ | refine st2 hS rfl rfl ?_ | refine st3 hS rfl rfl ?_ | refine st4 hS rfl rfl ?_ | refine st5 hS rfl rfl ?_ | refine st6 hS rfl rfl ?_ | refine st7 hS rfl rfl ?_); clear hS; intro w hS) | (guard_target = optM (some _) _; refine optM_mk rfl ?_)))
          exact ⟨hbad (fun e => by rcases nf_eq_iff.1 e with e | ⟨e, _⟩; exact hne e; rw [e] at hn1; cases hn1), hS⟩
      · have he : l.getD i 0 = k.getD i 0 := by
          have h5 : (((l.getD i 0 : Nat) : Int) != ((k.getD i 0 : Nat) : Int)) = false := hb2
          have h6 : ((l.getD i 0 : Nat) : Int) = ((k.getD i 0 : Nat) : Int) := by
            rcases Decidable.em (((l.getD i 0 : Nat) : Int) = ((k.getD i 0 : Nat) : Int)) with h | h
            · exact h
            · rw [bne_iff_ne.2 h] at h5; cases h5
          exact Int.ofNat.inj h6
        (try simp only [List.cons_append, List.nil_append, List.append_assoc] at hS); (repeat (first | (with_reducible (refine ⟨_, hS.cell ‹_›, ?_⟩)) | (with_reducible (refine ⟨_, _, _, hS.cell ‹_›, ?_⟩)) | (with_reducible (refine ⟨hS.cell ‹_›, ?_⟩)) | ((with_reducible first | apply ldI hS | apply ldS hS | apply hldS hS | apply hldI hS | apply ldF hS | apply ldP hS | apply ldB hS | apply hldF hS); (case ha => exact rfl); (case he => (repeat (first | with_reducible exact List.mem_cons_self | with_reducible refine List.mem_cons_of_mem _ ?_))); (case hc => exact rfl)) | (guard_target = newM _ _ _ _; refine newM_i hS ?_; clear hS; intro _ w hS) | (guard_target = drM _ _; refine drM_i hS ?_; clear hS; intro w hS) | (guard_target = stM _ _ _ _; (first | refine st0 hS rfl rfl ?_ | refine st1 hS rfl rfl ?_ | refine st2 hS rfl rfl ?_ | refine st3 hS rfl rfl ?_ | refine st4 hS rfl rfl ?_ | refine st5 hS rfl rfl ?_ | refine st6 hS rfl rfl ?_ | refine st7 hS rfl rfl ?_); clear hS; intro w hS) | (guard_target = optM (some _) _; refine optM_mk rfl ?_)))
        exact hadv (by rw [he]) _ hS
    · have hge : n ≤ i := by simpa using hb1
      refine hJ _ _ ⟨?_, hS⟩
      apply List.ext_getElem
      · simp; omega
      · intro j h1 h2
        simp at h1 h2
        have := hall j (by omega)
        simpa [List.getD_eq_getElem?_getD, h1, h2] using this

theorem r9same_c {w : World} {a b : Option Addr} {n c m d : Nat} {l k : List Nat} (ha : Reals w a n c l) (hb : Reals w b m d k) (hn : n ≤ 4294967296) :
    CallsX P N.f_girderref09_Same #[.slice a n c, .slice b m d] w fun v w' => v = .bool (l.map nf == k.map nf) ∧ St w w' [] := by
  refine H.girderref09_Same a n c b m d w _ ?_
  unfold S_girderref09_Same
  have la := ha.len
  have lb := hb.len
  refine cond_i (fun h => ?_) (fun h => ?_)
  · refine ⟨?_, St.refl _⟩
    congr 1
    have h' : n ≠ m := by simp at h; omega
    simp only [Bool.false_eq, beq_eq_false_iff_ne, ne_eq]
    intro e
    have := congrArg List.length e
    simp at this; omega
  · have hnm : n = m := by simp at h; omega
    subst hnm
    refine cutM_i (fun s w' => l.map nf = k.map nf ∧ St w w' []) (fun J hJ => ?_) (fun s w' ⟨h, hS⟩ => ⟨by simp [h], hS⟩)
    refine loopM_i (fun s w' => ∃ i : Nat, s.1 = (i : Int) ∧ i ≤ n ∧ (∀ j, j < i → nf (l.getD j 0) = nf (k.getD j 0)) ∧ St w w' []) (fun s => n - s.1.toNat) ⟨0, rfl, by omega, fun j h => by omega, St.refl w⟩ ?_
    rintro ⟨s, u⟩ w X ⟨i, hi, hin, hall, hS⟩ hX
    dsimp only at hi; subst hi
    refine cond_i (fun hb1 => ?_) (fun hb1 => ?_)
    · have hlt : i < n := by simpa using hb1
      have hadv : nf (l.getD i 0) = nf (k.getD i 0) → ∀ w', St _ w' [] → X (IntKind.i64.wrap ((i : Int) + 1), u) w' := fun he w' hS' => by
        refine hX _ _ ⟨i + 1, wrS hlt (by omega), by omega, fun j hj => ?_, hS'⟩ (by dsimp only; rw [wrS hlt (by omega)]; omega)
        by_cases e : j = i
        · subst e; exact he
        · exact hall j (by omega)
      have hbad : nf (l.getD i 0) ≠ nf (k.getD i 0) → (Value.bool false) = Value.bool (l.map nf == k.map nf) := fun he => by
        congr 1
        simp only [Bool.false_eq, beq_eq_false_iff_ne, ne_eq]
        intro e
        apply he
        have := congrArg (fun q => q.getD i 0) e
        simpa [List.getD_eq_getElem?_getD, show i < l.length by omega, show i < k.length by omega] using this
      obtain ⟨xa, rfl, hxa⟩ := ha.at_ i (by omega)
      obtain ⟨xb, rfl, hxb⟩ := hb.at_ i (by omega)
      dsimp only
      rw [Int.toNat_natCast, Nat.mul_one]
      refine ⟨by omega, by omega, optM_mk rfl ⟨_, hS.cell hxa, by omega, by omega, optM_mk rfl ⟨_, hS.cell hxb, ?_⟩⟩⟩
      (try simp only [List.cons_append, List.nil_append, List.append_assoc] at hS); (repeat (first | (with_reducible (refine ⟨_, hS.cell ‹_›, ?_⟩)) | (with_reducible (refine ⟨_, _, _, hS.cell ‹_›, ?_⟩)) | (with_reducible (refine ⟨hS.cell ‹_›, ?_⟩)) | ((with_reducible first | apply ldI hS | apply ldS hS | apply hldS hS | apply hldI hS | apply ldF hS | apply ldP hS | apply ldB hS | apply hldF hS); (case ha => exact rfl); (case he => (repeat (first | with_reducible exact List.mem_cons_self | with_reducible refine List.mem_cons_of_mem _ ?_))); (case hc => exact rfl)) | (guard_target = newM _ _ _ _; refine newM_i hS ?_; clear hS; intro _ w hS) | (guard_target = drM _ _; refine drM_i hS ?_; clear hS; intro w hS) | (guard_target = stM _ _ _ _; (first | refine st0 hS rfl rfl ?_ | refine st1 hS rfl rfl ?_ | refine st2 hS rfl rfl ?_ | refine st3 hS rfl rfl ?_ | refine st4 hS rfl rfl ?_ | refine st5 hS rfl rfl ?_ | refine st6 hS rfl rfl ?_ | refine st7 hS rfl rfl ?_); clear hS; intro w hS) | (guard_target = optM (some _) _; refine optM_mk rfl ?_)))
      refine (bits_c H _ _).mono ?_
      rintro _ w1 ⟨rfl, h1⟩
      replace hS := hS.next h1
      rw [List.nil_append] at hS
      refine ⟨_, rfl, hS.cell hxb, ?_⟩
      (try simp only [List.cons_append, List.nil_append, List.append_assoc] at hS); (repeat (first | (with_reducible (refine ⟨_, hS.cell ‹_›, ?_⟩)) | (with_reducible (refine ⟨_, _, _, hS.cell ‹_›, ?_⟩)) | (with_reducible (refine ⟨hS.cell ‹_›, ?_⟩)) | ((with_reducible first | apply ldI hS | apply ldS hS | apply hldS hS | apply hldI hS | apply ldF hS | apply ldP hS | apply ldB hS | apply hldF hS); (case ha => exact rfl); (case he => (repeat (first | with_reducible exact List.mem_cons_self | with_reducible refine List.mem_cons_of_mem _ ?_))); (case hc => exact rfl)) | (guard_target = newM _ _ _ _; refine newM_i hS ?_; clear hS; intro _ w hS) | (guard_target = drM _ _; refine drM_i hS ?_; clear hS; intro w hS) | (guard_target = stM _ _ _ _; (first | refine st0 hS rfl rfl ?_ | refine st1 hS rfl rfl ?_ | refine st2 hS rfl rfl ?_ | refine st3 hS rfl rfl ?_ | refine st4 hS rfl rfl ?_ | refine st5 hS rfl rfl ?_ | refine st6 hS rfl rfl ?_ | refine st7 hS rfl rfl ?_); clear hS; intro w hS) | (guard_target = optM (some _) _; refine optM_mk rfl ?_)))
      refine (bits_c H _ _).mono ?_
      rintro _ w2 ⟨rfl, h2⟩
      replace hS := hS.next h2
      rw [List.nil_append] at hS
      refine ⟨_, rfl, cond_i (fun hb2 => ?_) (fun hb2 => ?_)⟩
      · have hne : l.getD i 0 ≠ k.getD i 0 := fun e => by rw [e] at hb2; simp at hb2
        refine ⟨by omega, by omega, optM_mk rfl ⟨_, hS.cell hxa, by omega, by omega, optM_mk rfl ⟨_, hS.cell hxa, ?_⟩⟩⟩
        rw [feq_self]
        refine cond_i (fun hn1 => ?_) (fun hn1 => ?_)
        · have hn1 : isNaN (l.getD i 0) = true := by simpa using hn1
          refine ⟨by omega, by omega, optM_mk rfl ⟨_, hS.cell hxb, by omega, by omega, optM_mk rfl ⟨_, hS.cell hxb, ?_⟩⟩⟩
          (try simp only [List.cons_append, List.nil_append, List.append_assoc] at hS); (repeat (first | (with_reducible (refine ⟨_, hS.cell ‹_›, ?_⟩)) | (with_reducible (refine ⟨_, _, _, hS.cell ‹_›, ?_⟩)) | (with_reducible (refine ⟨hS.cell ‹_›, ?_⟩)) | ((with_reducible first | apply ldI hS | apply ldS hS | apply hldS hS | apply hldI hS | apply ldF hS | apply ldP hS | apply ldB hS | apply hldF hS); (case ha => exact rfl); (case he => (repeat (first | with_reducible exact List.mem_cons_self | with_reducible refine List.mem_cons_of_mem _ ?_))); (case hc => exact rfl)) | (guard_target = newM _ _ _ _; refine newM_i hS ?_; clear hS; intro _ w hS) | (guard_target = drM _ _; refine drM_i hS ?_; clear hS; intro w hS) | (guard_target = stM _ _ _ _; (first | refine st0 hS rfl rfl ?_ | refine st1 hS rfl rfl ?_ | refine st2 hS rfl rfl ?_ | refine st3 hS rfl rfl ?_ | refine st4 hS rfl rfl ?_ | refine st5 hS rfl rfl ?_ | refine st6 hS rfl rfl ?_ | refine st7 hS rfl rfl ?_); clear hS; intro w hS) | (guard_target = optM (some _) _; refine optM_mk rfl ?_)))
          rw [feq_self]
          refine cond_i (fun hn2 => ?_) (fun hn2 => ?_)
          · have hn2 : isNaN (k.getD i 0) = false := by simpa using hn2
            exact ⟨hbad (fun e => by rcases nf_eq_iff.1 e with e | ⟨_, e⟩; exact hne e; rw [e] at hn2; cases hn2), hS⟩
          · have hn2 : isNaN (k.getD i 0) = true := by simpa using hn2
            exact hadv (nf_eq_iff.2 (.inr ⟨hn1, hn2⟩)) _ hS
        · have hn1 : isNaN (l.getD i 0) = false := by simpa using hn1
          (try simp only [List.cons_append, List.nil_append, List.append_assoc] at hS); (repeat (first | (with_reducible (refine ⟨_, hS.cell ‹_›, ?_⟩)) | (with_reducible (refine ⟨_, _, _, hS.cell ‹_›, ?_⟩)) | (with_reducible (refine ⟨hS.cell ‹_›, ?_⟩)) | ((with_reducible first | apply ldI hS | apply ldS hS | apply hldS hS | apply hldI hS | apply ldF hS | apply ldP hS | apply ldB hS | apply hldF hS); (case ha => exact rfl); (case he => (repeat (first | with_reducible exact List.mem_cons_self | with_reducible refine List.mem_cons_of_mem _ ?_))); (case hc => exact rfl)) | (guard_target = newM _ _ _ _; refine newM_i hS ?_; clear hS; intro _ w hS) | (guard_target = drM _ _; refine drM_i hS ?_; clear hS; intro w hS) | (guard_target = stM _ _ _ _; (first | refine st0 hS rfl rfl ?_ | refine st1 hS rfl rfl ?_ | refine st2 hS rfl rfl ?_ | refine st3 hS rfl rfl ?_ | refine st4 hS rfl rfl ?_ | refine st5 hS rfl rfl ?_ | refine st6 hS rfl rfl ?_ | refine st7 hS rfl rfl ?_); clear hS; intro w hS) | (guard_target = optM (some _) _; refine optM_mk rfl ?_)))
          exact ⟨hbad (fun e => by rcases nf_eq_iff.1 e with e | ⟨e, _⟩; exact hne e; rw [e] at hn1; cases hn1), hS⟩
      · have he : l.getD i 0 = k.getD i 0 := by
          have h5 : (((l.getD i 0 : Nat) : Int) != ((k.getD i 0 : Nat) : Int)) = false := hb2
          have h6 : ((l.getD i 0 : Nat) : Int) = ((k.getD i 0 : Nat) : Int) := by
            rcases Decidable.em (((l.getD i 0 : Nat) : Int) = ((k.getD i 0 : Nat) : Int)) with h | h
            · exact h
            · rw [bne_iff_ne.2 h] at h5; cases h5
          exact Int.ofNat.inj h6
        (try simp only [List.cons_append, List.nil_append, List.append_assoc] at hS); (repeat (first | (with_reducible (refine ⟨_, hS.cell ‹_›, ?_⟩)) | (with_reducible (refine ⟨_, _, _, hS.cell ‹_›, ?_⟩)) | (with_reducible (refine ⟨hS.cell ‹_›, ?_⟩)) | ((with_reducible first | apply ldI hS | apply ldS hS | apply hldS hS | apply hldI hS | apply ldF hS | apply ldP hS | apply ldB hS | apply hldF hS); (case ha => exact rfl); (case he => (repeat (first | with_reducible exact List.mem_cons_self | with_reducible refine List.mem_cons_of_mem _ ?_))); (case hc => exact rfl)) | (guard_target = newM _ _ _ _; refine newM_i hS ?_; clear hS; intro _ w hS) | (guard_target = drM _ _; refine drM_i hS ?_; clear hS; intro w hS) | (guard_target = stM _ _ _ _; (first | refine st0 hS rfl rfl ?_ | refine st1 hS rfl rfl ?_ | refine st2 hS rfl rfl ?_ | refine st3 hS rfl rfl ?_ | refine st4 hS rfl rfl ?_ | refine st5 hS rfl rfl ?_ | refine st6 hS rfl rfl ?_ | refine st7 hS rfl rfl ?_); clear hS; intro w hS) | (guard_target = optM (some _) _; refine optM_mk rfl ?_)))
        exact hadv (by rw [he]) _ hS
    · have hge : n ≤ i := by simpa using hb1
      refine hJ _ _ ⟨?_, hS⟩
      apply List.ext_getElem
      · simp; omega
      · intro j h1 h2
        simp at h1 h2
        have := hall j (by omega)
        simpa [List.getD_eq_getElem?_getD, h1, h2] using this

theorem signbit_c (x : Nat) (w : World) : CallsX P N.f_math_Signbit #[.float .f64 x] w fun v w' => v = .bool (negF x) ∧ St w w' [] := by
  refine H.math_Signbit x w _ ?_
  unfold S_math_Signbit
  refine (bits_c H x w).mono ?_
  rintro _ w1 ⟨rfl, h1⟩
  exact ⟨_, rfl, by rw [sign_bits], h1⟩

theorem copysign_c (x y : Nat) (w : World) : CallsX P N.f_math_Copysign #[.float .f64 x, .float .f64 y] w fun v w' => v = .float .f64 ((if negF y then 9223372036854775808 else 0) + magF x) ∧ St w w' [] := by
  refine H.math_Copysign x y w _ ?_
  unfold S_math_Copysign
  refine (bits_c H x w).mono ?_
  rintro _ w1 ⟨rfl, h1⟩
  refine ⟨_, rfl, ?_⟩
  refine (bits_c H y w1).mono ?_
  rintro _ w2 ⟨rfl, h2⟩
  refine ⟨_, rfl, ?_⟩
  refine H.math_Float64frombits _ w2 _ ?_
  rw [copy_bits]
  exact ⟨_, rfl, rfl, h1.next h2⟩

theorem sameFloat_c (x y : Nat) (w : World) : CallsX P N.f_girderkit_SameFloat #[.float .f64 x, .float .f64 y] w fun v w' => v = .bool (nf x == nf y) ∧ St w w' [] := by
  refine H.girderkit_SameFloat x y w _ ?_
  unfold S_girderkit_SameFloat
  refine (bits_c H x w).mono ?_
  rintro _ w1 ⟨rfl, h1⟩
  refine ⟨_, rfl, ?_⟩
  refine (bits_c H y w1).mono ?_
  rintro _ w2 ⟨rfl, h2⟩
  refine ⟨_, rfl, ?_⟩
  have hS := h1.next h2
  have hxy : (((x : Nat) : Int) == ((y : Nat) : Int)) = (x == y) := by rw [Bool.eq_iff_iff]; simp; omega
  rw [same_bits, hxy, feq_self, feq_self]
  cases x == y <;> cases isNaN x <;> exact ⟨by simp, hS⟩

end

theorem wk_math_Float64bits {N : Nums} {P : Program} (H : AllOk N P) {w0 w : World} {L : List It} {q0 : Nat} {u0 : Int} (hS : Ho w0 w (L))  (hx : T_math_Float64bits (nf q0) = some u0) {K : Value → World → Prop} (hK : ∀  (w1 : World), Ho w0 w1 (L) → K (.int .u64 u0) w1) : CallsX P N.f_math_Float64bits #[.float .f64 q0] w K := by
  unfold T_math_Float64bits at hx
  have hn : isNaN q0 = false := by
    cases e : isNaN q0 with
    | false => rfl
    | true => rw [isNaN_nf, e] at hx; cases hx
  rw [isNaN_nf, hn, nf_of_not hn] at hx
  have hx := some_inj hx
  subst hx
  exact H.math_Float64bits q0 w _ (hK _ hS)

theorem wk_math_Float64frombits {N : Nums} {P : Program} (H : AllOk N P) {w0 w : World} {L : List It} {q0 : Int} {u0 : Nat} (hS : Ho w0 w (L))  (hx : T_math_Float64frombits q0 = some u0) {K : Value → World → Prop} (hK : ∀ (z0 : Nat) (w1 : World), nf z0 = u0 → Ho w0 w1 (L) → K (.float .f64 z0) w1) : CallsX P N.f_math_Float64frombits #[.int .u64 q0] w K := by
  unfold T_math_Float64frombits at hx
  have hx := some_inj hx
  exact H.math_Float64frombits q0 w _ (hK _ _ hx hS)

theorem wk_math_Abs {N : Nums} {P : Program} (H : AllOk N P) {w0 w : World} {L : List It} {q0 : Nat} {u0 : Nat} (hS : Ho w0 w (L))  (hx : T_math_Abs (nf q0) = some u0) {K : Value → World → Prop} (hK : ∀ (z0 : Nat) (w1 : World), nf z0 = u0 → Ho w0 w1 (L) → K (.float .f64 z0) w1) : CallsX P N.f_math_Abs #[.float .f64 q0] w K := by
  unfold T_math_Abs at hx
  have hx := some_inj hx
  refine (abs_c H q0 w).mono ?_
  rintro _ w1 ⟨rfl, h1⟩
  exact hK _ _ ((nf_magF q0).symm.trans hx) (hS.next h1)

theorem wk_vector_Most {N : Nums} {P : Program} (H : AllOk N P) {w0 w : World} {L : List It} {q0 : Option Addr} {q0l q0c : Nat} {ws0 : List Nat} {u0 : Int} {u1 : Nat} (hS : Ho w0 w (L)) (hq0 : Ent L (rdA (List.map (Value.float .f64) ws0) q0 q0l q0c)) (hx : T_vector_Most (List.map nf ws0) = some (u0, u1)) {K : Value → World → Prop} (hK : ∀ (z1 : Nat) (w1 : World), nf z1 = u1 → Ho w0 w1 (L) → K (.tuple #[.int .i64 u0, .float .f64 z1]) w1) : CallsX P N.f_vector_Most #[.slice q0 q0l q0c] w K := by
  refine H.vector_Most q0 q0l q0c w _ ?_
  unfold S_vector_Most
  unfold T_vector_Most at hx
  have h := hx
  clear hx
  try dsimp only
  replace h := bnd h
  obtain ⟨t1, ht1, h⟩ := h
  obtain rfl := lenF ht1 (hq0.now (fun _ h => h) hS)
  clear ht1
  replace h := bnd h
  obtain ⟨o2, h2, c2⟩ := h
  refine cutM_i (fun s w => ∃ (t2 : Int) (z1 : Nat), (t2, (nf z1)) = o2 ∧ s = (t2, z1, ()) ∧ Ho w0 w (L)) (fun J2 hJ2 => ?_) ?_
  · have h := h2
    clear h2
    refine iter_sim (fun s w t => ∃ (t4 : Int) (z3 : Nat) (t6 : Int), (t4, (nf z3), t6) = t ∧ s = (t4, z3, t6, ()) ∧ Ho w0 w (L)) ?_ h ⟨_, _, _, rfl, rfl, hS⟩
    clear h hS
    rintro s w t X q ⟨t4, z3, t6, rfl, rfl, hS⟩ h hX hO
    unfold T_vector_Most_b2 at h
    try dsimp only
    refine cond_s h ?_ ?_ <;> clear h <;> intro hc h
    · replace h := bnd h
      obtain ⟨o5, h5, c5⟩ := h
      refine cutM_i (fun s w => ∃ (t7 : Int) (z4 : Nat), (t7, (nf z4)) = o5 ∧ s = (t7, z4, ()) ∧ Ho w0 w (L)) (fun J5 hJ5 => ?_) ?_
      · have h := h5
        clear h5
        replace h := bnd h
        obtain ⟨t9, ht9, h⟩ := h
        obtain ⟨z6, rfl, q7x, q7l, q7r⟩ := atF ht9
        clear ht9
        refine idx_s (hq0.now (fun _ h => h) hS) q7x q7l q7r ?_; intro b8 hb8
        refine ⟨_, rd_get (hq0.now (fun _ h => h) hS) hb8 q7x, ?_⟩
        replace h := bnd h
        obtain ⟨t10, ht10, h⟩ := h
        refine wk_math_Abs H hS  ht10 ?_; clear hS ht10; rintro z9 w rfl hS
        refine ⟨_, rfl, ?_⟩
        replace h := bnd h
        obtain ⟨t11, ht11, h⟩ := h
        obtain rfl := fgt_s ht11
        clear ht11
        refine cond_s h ?_ ?_ <;> clear h <;> intro hc h
        · refine cond_s h ?_ ?_ <;> clear h <;> intro hc h
          · replace h := bnd h
            obtain ⟨t12, ht12, h⟩ := h
            obtain rfl := feq_s ht12
            clear ht12
            replace h := bnd h
            obtain ⟨o11, h11, c11⟩ := h
            refine cutM_i (fun s w => ∃ (t13 : Int) (z10 : Nat), (t13, (nf z10)) = o11 ∧ s = (t13, z10, ()) ∧ Ho w0 w (L)) (fun J11 hJ11 => ?_) ?_
            · have h := h11
              clear h11
              refine cond_s h ?_ ?_ <;> clear h <;> intro hc h
              · obtain rfl := some_inj h
                exact hJ11 _ _ ⟨_, _, rfl, rfl, hS⟩
              · obtain rfl := some_inj h
                exact hJ11 _ _ ⟨_, _, rfl, rfl, hS⟩
            · clear h11 hS
              rintro s w ⟨t13, z10, rfl, rfl, hS⟩
              have h := c11
              clear c11
              try dsimp only
              obtain rfl := some_inj h
              exact hJ5 _ _ ⟨_, _, rfl, rfl, hS⟩
          · replace h := bnd h
            obtain ⟨o13, h13, c13⟩ := h
            refine cutM_i (fun s w => ∃ (t15 : Int) (z12 : Nat), (t15, (nf z12)) = o13 ∧ s = (t15, z12, ()) ∧ Ho w0 w (L)) (fun J13 hJ13 => ?_) ?_
            · have h := h13
              clear h13
              obtain rfl := some_inj h
              exact hJ13 _ _ ⟨_, _, rfl, rfl, hS⟩
            · clear h13 hS
              rintro s w ⟨t15, z12, rfl, rfl, hS⟩
              have h := c13
              clear c13
              try dsimp only
              obtain rfl := some_inj h
              exact hJ5 _ _ ⟨_, _, rfl, rfl, hS⟩
        · replace h := bnd h
          obtain ⟨o15, h15, c15⟩ := h
          refine cutM_i (fun s w => ∃ (t17 : Int) (z14 : Nat), (t17, (nf z14)) = o15 ∧ s = (t17, z14, ()) ∧ Ho w0 w (L)) (fun J15 hJ15 => ?_) ?_
          · have h := h15
            clear h15
            obtain rfl := some_inj h
            exact hJ15 _ _ ⟨_, _, rfl, rfl, hS⟩
          · clear h15 hS
            rintro s w ⟨t17, z14, rfl, rfl, hS⟩
            have h := c15
            clear c15
            try dsimp only
            obtain rfl := some_inj h
            exact hJ5 _ _ ⟨_, _, rfl, rfl, hS⟩
      · clear h5 hS
        rintro s w ⟨t7, z4, rfl, rfl, hS⟩
        have h := c5
        clear c5
        try dsimp only
        obtain rfl := some_inj h
        exact hX _ rfl _ _ ⟨_, _, _, rfl, rfl, hS⟩
    · obtain rfl := some_inj h
      have h := congrArg some (hO _ rfl)
      obtain rfl := some_inj h
      exact hJ2 _ _ ⟨_, _, rfl, rfl, hS⟩
  · clear h2 hS
    rintro s w ⟨t2, z1, rfl, rfl, hS⟩
    have h := c2
    clear c2
    try dsimp only
    have h := some_inj h
    cases h
    exact hK _ _ rfl hS

theorem wk_girderref09_Most {N : Nums} {P : Program} (H : AllOk N P) {w0 w : World} {L : List It} {q0 : Option Addr} {q0l q0c : Nat} {ws0 : List Nat} {u0 : Int} {u1 : Nat} (hS : Ho w0 w (L)) (hq0 : Ent L (rdA (List.map (Value.float .f64) ws0) q0 q0l q0c)) (hx : T_girderref09_Most (List.map nf ws0) = some (u0, u1)) {K : Value → World → Prop} (hK : ∀ (z1 : Nat) (w1 : World), nf z1 = u1 → Ho w0 w1 (L) → K (.tuple #[.int .i64 u0, .float .f64 z1]) w1) : CallsX P N.f_girderref09_Most #[.slice q0 q0l q0c] w K := by
  refine H.girderref09_Most q0 q0l q0c w _ ?_
  unfold S_girderref09_Most
  unfold T_girderref09_Most at hx
  have h := hx
  clear hx
  try dsimp only
  replace h := bnd h
  obtain ⟨o2, h2, c2⟩ := h
  refine cutM_i (fun s w => ∃ (t1 : Int) (z1 : Nat), (t1, (nf z1)) = o2 ∧ s = (t1, z1, ()) ∧ Ho w0 w (L)) (fun J2 hJ2 => ?_) ?_
  · have h := h2
    clear h2
    refine iter_sim (fun s w t => ∃ (t3 : Int) (z3 : Nat) (t5 : Int), (t3, (nf z3), t5) = t ∧ s = (t3, z3, t5, ()) ∧ Ho w0 w (L)) ?_ h ⟨_, _, _, rfl, rfl, hS⟩
    clear h hS
    rintro s w t X q ⟨t3, z3, t5, rfl, rfl, hS⟩ h hX hO
    unfold T_girderref09_Most_b2 at h
    try dsimp only
    replace h := bnd h
    obtain ⟨t6, ht6, h⟩ := h
    obtain rfl := lenF ht6 (hq0.now (fun _ h => h) hS)
    clear ht6
    refine cond_s h ?_ ?_ <;> clear h <;> intro hc h
    · replace h := bnd h
      obtain ⟨o5, h5, c5⟩ := h
      refine cutM_i (fun s w => ∃ (t7 : Int) (z4 : Nat), (t7, (nf z4)) = o5 ∧ s = (t7, z4, ()) ∧ Ho w0 w (L)) (fun J5 hJ5 => ?_) ?_
      · have h := h5
        clear h5
        replace h := bnd h
        obtain ⟨t9, ht9, h⟩ := h
        obtain ⟨z6, rfl, q7x, q7l, q7r⟩ := atF ht9
        clear ht9
        refine idx_s (hq0.now (fun _ h => h) hS) q7x q7l q7r ?_; intro b8 hb8
        refine ⟨_, rd_get (hq0.now (fun _ h => h) hS) hb8 q7x, ?_⟩
        replace h := bnd h
        obtain ⟨t10, ht10, h⟩ := h
        obtain ⟨z9, rfl, q10x, q10l, q10r⟩ := atF ht10
        clear ht10
        refine idx_s (hq0.now (fun _ h => h) hS) q10x q10l q10r ?_; intro b11 hb11
        refine ⟨_, rd_get (hq0.now (fun _ h => h) hS) hb11 q10x, ?_⟩
        replace h := bnd h
        obtain ⟨t11, ht11, h⟩ := h
        obtain rfl := feq_s ht11
        clear ht11
        refine cond_s h ?_ ?_ <;> clear h <;> intro hc h
        · refine cond_s h ?_ ?_ <;> clear h <;> intro hc h
          · replace h := bnd h
            obtain ⟨t12, ht12, h⟩ := h
            obtain ⟨z12, rfl, q13x, q13l, q13r⟩ := atF ht12
            clear ht12
            refine idx_s (hq0.now (fun _ h => h) hS) q13x q13l q13r ?_; intro b14 hb14
            refine ⟨_, rd_get (hq0.now (fun _ h => h) hS) hb14 q13x, ?_⟩
            refine drM_s hS ?_; clear hS; intro w hS
            replace h := bnd h
            obtain ⟨t13, ht13, h⟩ := h
            refine wk_math_Abs H hS  ht13 ?_; clear hS ht13; rintro z15 w rfl hS
            refine ⟨_, rfl, ?_⟩
            replace h := bnd h
            obtain ⟨t14, ht14, h⟩ := h
            obtain rfl := fgt_s ht14
            clear ht14
            refine drM_s hS ?_; clear hS; intro w hS
            replace h := bnd h
            obtain ⟨o17, h17, c17⟩ := h
            refine cutM_i (fun s w => ∃ (t15 : Int) (z16 : Nat), (t15, (nf z16)) = o17 ∧ s = (t15, z16, ()) ∧ Ho w0 w (L)) (fun J17 hJ17 => ?_) ?_
            · have h := h17
              clear h17
              refine cond_s h ?_ ?_ <;> clear h <;> intro hc h
              · replace h := bnd h
                obtain ⟨t17, ht17, h⟩ := h
                obtain ⟨z18, rfl, q19x, q19l, q19r⟩ := atF ht17
                clear ht17
                refine idx_s (hq0.now (fun _ h => h) hS) q19x q19l q19r ?_; intro b20 hb20
                refine ⟨_, rd_get (hq0.now (fun _ h => h) hS) hb20 q19x, ?_⟩
                replace h := bnd h
                obtain ⟨t18, ht18, h⟩ := h
                refine wk_math_Abs H hS  ht18 ?_; clear hS ht18; rintro z21 w rfl hS
                refine ⟨_, rfl, ?_⟩
                obtain rfl := some_inj h
                exact hJ17 _ _ ⟨_, _, rfl, rfl, hS⟩
              · obtain rfl := some_inj h
                exact hJ17 _ _ ⟨_, _, rfl, rfl, hS⟩
            · clear h17 hS
              rintro s w ⟨t15, z16, rfl, rfl, hS⟩
              have h := c17
              clear c17
              try dsimp only
              obtain rfl := some_inj h
              exact hJ5 _ _ ⟨_, _, rfl, rfl, hS⟩
          · refine drM_s hS ?_; clear hS; intro w hS
            refine drM_s hS ?_; clear hS; intro w hS
            replace h := bnd h
            obtain ⟨o23, h23, c23⟩ := h
            refine cutM_i (fun s w => ∃ (t19 : Int) (z22 : Nat), (t19, (nf z22)) = o23 ∧ s = (t19, z22, ()) ∧ Ho w0 w (L)) (fun J23 hJ23 => ?_) ?_
            · have h := h23
              clear h23
              replace h := bnd h
              obtain ⟨t21, ht21, h⟩ := h
              obtain ⟨z24, rfl, q25x, q25l, q25r⟩ := atF ht21
              clear ht21
              refine idx_s (hq0.now (fun _ h => h) hS) q25x q25l q25r ?_; intro b26 hb26
              refine ⟨_, rd_get (hq0.now (fun _ h => h) hS) hb26 q25x, ?_⟩
              replace h := bnd h
              obtain ⟨t22, ht22, h⟩ := h
              refine wk_math_Abs H hS  ht22 ?_; clear hS ht22; rintro z27 w rfl hS
              refine ⟨_, rfl, ?_⟩
              obtain rfl := some_inj h
              exact hJ23 _ _ ⟨_, _, rfl, rfl, hS⟩
            · clear h23 hS
              rintro s w ⟨t19, z22, rfl, rfl, hS⟩
              have h := c23
              clear c23
              try dsimp only
              obtain rfl := some_inj h
              exact hJ5 _ _ ⟨_, _, rfl, rfl, hS⟩
        · refine drM_s hS ?_; clear hS; intro w hS
          refine drM_s hS ?_; clear hS; intro w hS
          replace h := bnd h
          obtain ⟨o29, h29, c29⟩ := h
          refine cutM_i (fun s w => ∃ (t23 : Int) (z28 : Nat), (t23, (nf z28)) = o29 ∧ s = (t23, z28, ()) ∧ Ho w0 w (L)) (fun J29 hJ29 => ?_) ?_
          · have h := h29
            clear h29
            obtain rfl := some_inj h
            exact hJ29 _ _ ⟨_, _, rfl, rfl, hS⟩
          · clear h29 hS
            rintro s w ⟨t23, z28, rfl, rfl, hS⟩
            have h := c29
            clear c29
            try dsimp only
            obtain rfl := some_inj h
            exact hJ5 _ _ ⟨_, _, rfl, rfl, hS⟩
      · clear h5 hS
        rintro s w ⟨t7, z4, rfl, rfl, hS⟩
        have h := c5
        clear c5
        try dsimp only
        obtain rfl := some_inj h
        exact hX _ rfl _ _ ⟨_, _, _, rfl, rfl, hS⟩
    · obtain rfl := some_inj h
      have h := congrArg some (hO _ rfl)
      obtain rfl := some_inj h
      exact hJ2 _ _ ⟨_, _, rfl, rfl, hS⟩
  · clear h2 hS
    rintro s w ⟨t1, z1, rfl, rfl, hS⟩
    have h := c2
    clear c2
    try dsimp only
    have h := some_inj h
    cases h
    exact hK _ _ rfl hS

theorem wk_math_IsNaN {N : Nums} {P : Program} (H : AllOk N P) {w0 w : World} {L : List It} {q0 : Nat} {u0 : Bool} (hS : Ho w0 w (L))  (hx : T_math_IsNaN (nf q0) = some u0) {K : Value → World → Prop} (hK : ∀  (w1 : World), Ho w0 w1 (L) → K (.bool u0) w1) : CallsX P N.f_math_IsNaN #[.float .f64 q0] w K := by
  refine H.math_IsNaN q0 w _ ?_
  unfold S_math_IsNaN
  unfold T_math_IsNaN at hx
  have h := hx
  clear hx
  try dsimp only
  replace h := bnd h
  obtain ⟨t1, ht1, h⟩ := h
  obtain rfl := fne_s ht1
  clear ht1
  have h := some_inj h
  cases h
  exact hK _ hS

theorem wk_vector_Same {N : Nums} {P : Program} (H : AllOk N P) {w0 w : World} {L : List It} {q0 : Option Addr} {q0l q0c : Nat} {ws0 : List Nat} {q1 : Option Addr} {q1l q1c : Nat} {ws1 : List Nat} {u0 : Bool} (hS : Ho w0 w (L)) (hq0 : Ent L (rdA (List.map (Value.float .f64) ws0) q0 q0l q0c)) (hq1 : Ent L (rdA (List.map (Value.float .f64) ws1) q1 q1l q1c)) (hx : T_vector_Same (List.map nf ws0) (List.map nf ws1) = some u0) {K : Value → World → Prop} (hK : ∀  (w1 : World), Ho w0 w1 (L) → K (.bool u0) w1) : CallsX P N.f_vector_Same #[.slice q0 q0l q0c, .slice q1 q1l q1c] w K := by
  unfold T_vector_Same at hx
  have hd : (List.map nf ws0).length ≤ 4294967296 := by
    rcases Nat.lt_or_ge 4294967296 (List.map nf ws0).length with h | h
    · rw [decide_eq_false (by omega)] at hx; cases hx
    · exact h
  rw [decide_eq_true hd] at hx
  have hx := some_inj hx
  subst hx
  have r0 := (hq0.now (fun _ h => h) hS).reals
  refine (vsame_c H r0 (hq1.now (fun _ h => h) hS).reals (by have := r0.len; simp at hd; omega)).mono ?_
  rintro _ w1 ⟨rfl, h1⟩
  exact hK _ (hS.next h1)

theorem wk_girderref09_Same {N : Nums} {P : Program} (H : AllOk N P) {w0 w : World} {L : List It} {q0 : Option Addr} {q0l q0c : Nat} {ws0 : List Nat} {q1 : Option Addr} {q1l q1c : Nat} {ws1 : List Nat} {u0 : Bool} (hS : Ho w0 w (L)) (hq0 : Ent L (rdA (List.map (Value.float .f64) ws0) q0 q0l q0c)) (hq1 : Ent L (rdA (List.map (Value.float .f64) ws1) q1 q1l q1c)) (hx : T_girderref09_Same (List.map nf ws0) (List.map nf ws1) = some u0) {K : Value → World → Prop} (hK : ∀  (w1 : World), Ho w0 w1 (L) → K (.bool u0) w1) : CallsX P N.f_girderref09_Same #[.slice q0 q0l q0c, .slice q1 q1l q1c] w K := by
  unfold T_girderref09_Same at hx
  have hd : (List.map nf ws0).length ≤ 4294967296 := by
    rcases Nat.lt_or_ge 4294967296 (List.map nf ws0).length with h | h
    · rw [decide_eq_false (by omega)] at hx; cases hx
    · exact h
  rw [decide_eq_true hd] at hx
  have hx := some_inj hx
  subst hx
  have r0 := (hq0.now (fun _ h => h) hS).reals
  refine (r9same_c H r0 (hq1.now (fun _ h => h) hS).reals (by have := r0.len; simp at hd; omega)).mono ?_
  rintro _ w1 ⟨rfl, h1⟩
  exact hK _ (hS.next h1)

theorem wk_round_way {N : Nums} {P : Program} (H : AllOk N P) {w0 w : World} {L : List It} {q0 : Int} {u0 : Int} (hS : Ho w0 w (L))  (hx : T_round_way q0 = some u0) {K : Value → World → Prop} (hK : ∀  (w1 : World), Ho w0 w1 (L) → K (.int .i8 u0) w1) : CallsX P N.f_round_way #[.int .i8 q0] w K := by
  refine H.round_way q0 w _ ?_
  unfold S_round_way
  unfold T_round_way at hx
  have h := hx
  clear hx
  try dsimp only
  refine cond_s h ?_ ?_ <;> clear h <;> intro hc h
  · refine cond_s h ?_ ?_ <;> clear h <;> intro hc h
    · have h := some_inj h
      cases h
      exact hK _ hS
    · have h := some_inj h
      cases h
      exact hK _ hS
  · have h := some_inj h
    cases h
    exact hK _ hS

theorem wk_math_IsInf {N : Nums} {P : Program} (H : AllOk N P) {w0 w : World} {L : List It} {q0 : Nat} {q1 : Int} {u0 : Bool} (hS : Ho w0 w (L))  (hx : T_math_IsInf (nf q0) q1 = some u0) {K : Value → World → Prop} (hK : ∀  (w1 : World), Ho w0 w1 (L) → K (.bool u0) w1) : CallsX P N.f_math_IsInf #[.float .f64 q0, .int .i64 q1] w K := by
  refine H.math_IsInf q0 q1 w _ ?_
  unfold S_math_IsInf
  unfold T_math_IsInf at hx
  have h := hx
  clear hx
  try dsimp only
  replace h := bnd h
  obtain ⟨o2, h2, c2⟩ := h
  refine cutM_i (fun s w => ∃ (z1 : Nat), (nf z1) = o2 ∧ s = (z1, ()) ∧ Ho w0 w (L)) (fun J2 hJ2 => ?_) ?_
  · have h := h2
    clear h2
    refine cond_s h ?_ ?_ <;> clear h <;> intro hc h
    · replace h := bnd h
      obtain ⟨t2, ht2, h⟩ := h
      refine wk_math_Abs H hS  ht2 ?_; clear hS ht2; rintro z3 w rfl hS
      refine ⟨_, rfl, ?_⟩
      obtain rfl := some_inj h
      exact hJ2 _ _ ⟨_, rfl, rfl, hS⟩
    · replace h := bnd h
      obtain ⟨o5, h5, c5⟩ := h
      refine cutM_i (fun s w => ∃ (z4 : Nat), (nf z4) = o5 ∧ s = (z4, ()) ∧ Ho w0 w (L)) (fun J5 hJ5 => ?_) ?_
      · have h := h5
        clear h5
        refine cond_s h ?_ ?_ <;> clear h <;> intro hc h
        · replace h := bnd h
          obtain ⟨t4, ht4, h⟩ := h
          obtain rfl := fneg_s ht4
          clear ht4
          obtain rfl := some_inj h
          exact hJ5 _ _ ⟨_, rfl, rfl, hS⟩
        · obtain rfl := some_inj h
          exact hJ5 _ _ ⟨_, rfl, rfl, hS⟩
      · clear h5 hS
        rintro s w ⟨z4, rfl, rfl, hS⟩
        have h := c5
        clear c5
        try dsimp only
        obtain rfl := some_inj h
        exact hJ2 _ _ ⟨_, rfl, rfl, hS⟩
  · clear h2 hS
    rintro s w ⟨z1, rfl, rfl, hS⟩
    have h := c2
    clear c2
    try dsimp only
    replace h := bnd h
    obtain ⟨t5, ht5, h⟩ := h
    obtain rfl := fgt_s ht5
    clear ht5
    have h := some_inj h
    cases h
    exact hK _ hS

theorem wk_round_finite {N : Nums} {P : Program} (H : AllOk N P) {w0 w : World} {L : List It} {q0 : Option Addr} {q0l q0c : Nat} {ws0 : List Nat} {u0 : Bool} (hS : Ho w0 w (L)) (hq0 : Ent L (rdA (List.map (Value.float .f64) ws0) q0 q0l q0c)) (hx : T_round_finite (List.map nf ws0) = some u0) {K : Value → World → Prop} (hK : ∀  (w1 : World), Ho w0 w1 (L) → K (.bool u0) w1) : CallsX P N.f_round_finite #[.slice q0 q0l q0c] w K := by
  refine H.round_finite q0 q0l q0c w _ ?_
  unfold S_round_finite
  unfold T_round_finite at hx
  have h := hx
  clear hx
  try dsimp only
  replace h := bnd h
  obtain ⟨t1, ht1, h⟩ := h
  obtain rfl := lenF ht1 (hq0.now (fun _ h => h) hS)
  clear ht1
  replace h := bnd h
  obtain ⟨o1, h1, c1⟩ := h
  refine cutM_i (fun s w =>  .inl () = o1 ∧ s = (()) ∧ Ho w0 w (L)) (fun J1 hJ1 => ?_) ?_
  · have h := h1
    clear h1
    refine iter_sim (fun s w t => ∃ (t2 : Int), t2 = t ∧ s = (t2, ()) ∧ Ho w0 w (L)) ?_ h ⟨_, rfl, rfl, hS⟩
    clear h hS
    rintro s w t X q ⟨t2, rfl, rfl, hS⟩ h hX hO
    unfold T_round_finite_b2 at h
    try dsimp only
    refine cond_s h ?_ ?_ <;> clear h <;> intro hc h
    · replace h := bnd h
      obtain ⟨t3, ht3, h⟩ := h
      obtain ⟨z2, rfl, q3x, q3l, q3r⟩ := atF ht3
      clear ht3
      refine idx_s (hq0.now (fun _ h => h) hS) q3x q3l q3r ?_; intro b4 hb4
      refine ⟨_, rd_get (hq0.now (fun _ h => h) hS) hb4 q3x, ?_⟩
      replace h := bnd h
      obtain ⟨t4, ht4, h⟩ := h
      refine wk_math_IsNaN H hS  ht4 ?_; clear hS ht4; rintro w hS
      refine ⟨_, rfl, ?_⟩
      refine cond_s h ?_ ?_ <;> clear h <;> intro hc h
      · replace h := bnd h
        obtain ⟨t5, ht5, h⟩ := h
        refine wk_math_IsInf H hS  ht5 ?_; clear hS ht5; rintro w hS
        refine ⟨_, rfl, ?_⟩
        refine cond_s h ?_ ?_ <;> clear h <;> intro hc h
        · obtain rfl := some_inj h
          have h := congrArg some (hO _ rfl)
          obtain rfl := some_inj h
          have h := c1
          have h := some_inj h
          cases h
          exact hK _ hS
        · obtain rfl := some_inj h
          exact hX _ rfl _ _ ⟨_, rfl, rfl, hS⟩
      · obtain rfl := some_inj h
        have h := congrArg some (hO _ rfl)
        obtain rfl := some_inj h
        have h := c1
        have h := some_inj h
        cases h
        exact hK _ hS
    · obtain rfl := some_inj h
      have h := congrArg some (hO _ rfl)
      obtain rfl := some_inj h
      exact hJ1 _ _ ⟨rfl, rfl, hS⟩
  · clear h1 hS
    rintro s w ⟨rfl, rfl, hS⟩
    have h := c1
    clear c1
    try dsimp only
    have h := some_inj h
    cases h
    exact hK _ hS

theorem wk_math_Signbit {N : Nums} {P : Program} (H : AllOk N P) {w0 w : World} {L : List It} {q0 : Nat} {u0 : Bool} (hS : Ho w0 w (L))  (hx : T_math_Signbit (nf q0) = some u0) {K : Value → World → Prop} (hK : ∀  (w1 : World), Ho w0 w1 (L) → K (.bool u0) w1) : CallsX P N.f_math_Signbit #[.float .f64 q0] w K := by
  unfold T_math_Signbit at hx
  have hn : isNaN q0 = false := by
    cases e : isNaN q0 with
    | false => rfl
    | true => rw [isNaN_nf, e] at hx; cases hx
  rw [isNaN_nf, hn, nf_of_not hn] at hx
  have hx := some_inj hx
  subst hx
  refine (signbit_c H q0 w).mono ?_
  rintro _ w1 ⟨rfl, h1⟩
  exact hK _ (hS.next h1)

theorem wk_math_Copysign {N : Nums} {P : Program} (H : AllOk N P) {w0 w : World} {L : List It} {q0 : Nat} {q1 : Nat} {u0 : Nat} (hS : Ho w0 w (L))  (hx : T_math_Copysign (nf q0) (nf q1) = some u0) {K : Value → World → Prop} (hK : ∀ (z0 : Nat) (w1 : World), nf z0 = u0 → Ho w0 w1 (L) → K (.float .f64 z0) w1) : CallsX P N.f_math_Copysign #[.float .f64 q0, .float .f64 q1] w K := by
  unfold T_math_Copysign at hx
  have hn : isNaN q1 = false := by
    cases e : isNaN q1 with
    | false => rfl
    | true => rw [isNaN_nf, e] at hx; cases hx
  rw [isNaN_nf, hn, nf_of_not hn] at hx
  have hx := some_inj hx
  refine (copysign_c H q0 q1 w).mono ?_
  rintro _ w1 ⟨rfl, h1⟩
  exact hK _ _ ((nf_copy _ _).symm.trans hx) (hS.next h1)

theorem wk_round_none {N : Nums} {P : Program} (H : AllOk N P) {w0 w : World} {L : List It} {q0 : Int} {u0 : Nat} (hS : Ho w0 w (L))  (hx : T_round_none q0 = some u0) {K : Value → World → Prop} (hK : ∀ (z0 : Nat) (w1 : World), nf z0 = u0 → Ho w0 w1 (L) → K (.float .f64 z0) w1) : CallsX P N.f_round_none #[.int .i8 q0] w K := by
  refine H.round_none q0 w _ ?_
  unfold S_round_none
  unfold T_round_none at hx
  have h := hx
  clear hx
  try dsimp only
  refine cond_s h ?_ ?_ <;> clear h <;> intro hc h
  · replace h := bnd h
    obtain ⟨t1, ht1, h⟩ := h
    refine wk_math_Copysign H hS  ht1 ?_; clear hS ht1; rintro z1 w rfl hS
    refine ⟨_, rfl, ?_⟩
    have h := some_inj h
    cases h
    exact hK _ _ rfl hS
  · have h := some_inj h
    cases h
    exact hK _ _ rfl hS

theorem wk_round_step {N : Nums} {P : Program} (H : AllOk N P) {w0 w : World} {L : List It} {q0 : Nat} {q1 : Bool} {u0 : Nat} (hS : Ho w0 w (L))  (hx : T_round_step (nf q0) q1 = some u0) {K : Value → World → Prop} (hK : ∀ (z0 : Nat) (w1 : World), nf z0 = u0 → Ho w0 w1 (L) → K (.float .f64 z0) w1) : CallsX P N.f_round_step #[.float .f64 q0, .bool q1] w K := by
  refine H.round_step q0 q1 w _ ?_
  unfold S_round_step
  unfold T_round_step at hx
  have h := hx
  clear hx
  try dsimp only
  replace h := bnd h
  obtain ⟨t1, ht1, h⟩ := h
  refine wk_math_Float64bits H hS  ht1 ?_; clear hS ht1; rintro w hS
  refine ⟨_, rfl, ?_⟩
  replace h := bnd h
  obtain ⟨o1, h1, c1⟩ := h
  refine cutM_i (fun s w => ∃ (t2 : Int), t2 = o1 ∧ s = (t2, ()) ∧ Ho w0 w (L)) (fun J1 hJ1 => ?_) ?_
  · have h := h1
    clear h1
    replace h := bnd h
    obtain ⟨t3, ht3, h⟩ := h
    obtain rfl := feq_s ht3
    clear ht3
    replace h := bnd h
    obtain ⟨o2, h2, c2⟩ := h
    refine cutM_i (fun s w => ∃ (t4 : Int), t4 = o2 ∧ s = (t4, ()) ∧ Ho w0 w (L)) (fun J2 hJ2 => ?_) ?_
    · have h := h2
      clear h2
      refine cond_s h ?_ ?_ <;> clear h <;> intro hc h
      · replace h := bnd h
        obtain ⟨o3, h3, c3⟩ := h
        refine cutM_i (fun s w => ∃ (t5 : Int), t5 = o3 ∧ s = (t5, ()) ∧ Ho w0 w (L)) (fun J3 hJ3 => ?_) ?_
        · have h := h3
          clear h3
          refine cond_s h ?_ ?_ <;> clear h <;> intro hc h
          · obtain rfl := some_inj h
            exact hJ3 _ _ ⟨_, rfl, rfl, hS⟩
          · obtain rfl := some_inj h
            exact hJ3 _ _ ⟨_, rfl, rfl, hS⟩
        · clear h3 hS
          rintro s w ⟨t5, rfl, rfl, hS⟩
          have h := c3
          clear c3
          try dsimp only
          obtain rfl := some_inj h
          exact hJ2 _ _ ⟨_, rfl, rfl, hS⟩
      · replace h := bnd h
        obtain ⟨t6, ht6, h⟩ := h
        obtain rfl := fgt_s ht6
        clear ht6
        replace h := bnd h
        obtain ⟨o4, h4, c4⟩ := h
        refine cutM_i (fun s w => ∃ (t7 : Int), t7 = o4 ∧ s = (t7, ()) ∧ Ho w0 w (L)) (fun J4 hJ4 => ?_) ?_
        · have h := h4
          clear h4
          refine cond_s h ?_ ?_ <;> clear h <;> intro hc h
          · obtain rfl := some_inj h
            exact hJ4 _ _ ⟨_, rfl, rfl, hS⟩
          · obtain rfl := some_inj h
            exact hJ4 _ _ ⟨_, rfl, rfl, hS⟩
        · clear h4 hS
          rintro s w ⟨t7, rfl, rfl, hS⟩
          have h := c4
          clear c4
          try dsimp only
          obtain rfl := some_inj h
          exact hJ2 _ _ ⟨_, rfl, rfl, hS⟩
    · clear h2 hS
      rintro s w ⟨t4, rfl, rfl, hS⟩
      have h := c2
      clear c2
      try dsimp only
      obtain rfl := some_inj h
      exact hJ1 _ _ ⟨_, rfl, rfl, hS⟩
  · clear h1 hS
    rintro s w ⟨t2, rfl, rfl, hS⟩
    have h := c1
    clear c1
    try dsimp only
    replace h := bnd h
    obtain ⟨t8, ht8, h⟩ := h
    refine wk_math_Float64frombits H hS  ht8 ?_; clear hS ht8; rintro z5 w rfl hS
    refine ⟨_, rfl, ?_⟩
    have h := some_inj h
    cases h
    exact hK _ _ rfl hS

theorem wk_round_settle {N : Nums} {P : Program} (H : AllOk N P) {w0 w : World} {L : List It} {q0 : Nat} {q1 : Int} {q2 : Int} {u0 : Nat} (hS : Ho w0 w (L))  (hx : T_round_settle (nf q0) q1 q2 = some u0) {K : Value → World → Prop} (hK : ∀ (z0 : Nat) (w1 : World), nf z0 = u0 → Ho w0 w1 (L) → K (.float .f64 z0) w1) : CallsX P N.f_round_settle #[.float .f64 q0, .int .i64 q1, .int .i8 q2] w K := by
  refine H.round_settle q0 q1 q2 w _ ?_
  unfold S_round_settle
  unfold T_round_settle at hx
  have h := hx
  clear hx
  try dsimp only
  replace h := bnd h
  obtain ⟨o1, h1, c1⟩ := h
  refine cutM_i (fun s w => ∃ (t1 : Int), t1 = o1 ∧ s = (t1, ()) ∧ Ho w0 w (L)) (fun J1 hJ1 => ?_) ?_
  · have h := h1
    clear h1
    refine cond_s h ?_ ?_ <;> clear h <;> intro hc h
    · replace h := bnd h
      obtain ⟨t2, ht2, h⟩ := h
      refine wk_math_Signbit H hS  ht2 ?_; clear hS ht2; rintro w hS
      refine ⟨_, rfl, ?_⟩
      replace h := bnd h
      obtain ⟨o2, h2, c2⟩ := h
      refine cutM_i (fun s w => ∃ (t3 : Int), t3 = o2 ∧ s = (t3, ()) ∧ Ho w0 w (L)) (fun J2 hJ2 => ?_) ?_
      · have h := h2
        clear h2
        refine cond_s h ?_ ?_ <;> clear h <;> intro hc h
        · obtain rfl := some_inj h
          exact hJ2 _ _ ⟨_, rfl, rfl, hS⟩
        · obtain rfl := some_inj h
          exact hJ2 _ _ ⟨_, rfl, rfl, hS⟩
      · clear h2 hS
        rintro s w ⟨t3, rfl, rfl, hS⟩
        have h := c2
        clear c2
        try dsimp only
        obtain rfl := some_inj h
        exact hJ1 _ _ ⟨_, rfl, rfl, hS⟩
    · obtain rfl := some_inj h
      exact hJ1 _ _ ⟨_, rfl, rfl, hS⟩
  · clear h1 hS
    rintro s w ⟨t1, rfl, rfl, hS⟩
    have h := c1
    clear c1
    try dsimp only
    replace h := bnd h
    obtain ⟨t4, ht4, h⟩ := h
    refine wk_math_IsInf H hS  ht4 ?_; clear hS ht4; rintro w hS
    refine ⟨_, rfl, ?_⟩
    refine cond_s h ?_ ?_ <;> clear h <;> intro hc h
    · replace h := bnd h
      obtain ⟨t5, ht5, h⟩ := h
      obtain rfl := fgt_s ht5
      clear ht5
      refine cond_s h ?_ ?_ <;> clear h <;> intro hc h
      · refine cond_s h ?_ ?_ <;> clear h <;> intro hc h
        · replace h := bnd h
          obtain ⟨t6, ht6, h⟩ := h
          obtain rfl := flt_s ht6
          clear ht6
          refine cond_s h ?_ ?_ <;> clear h <;> intro hc h
          · refine cond_s h ?_ ?_ <;> clear h <;> intro hc h
            · replace h := bnd h
              obtain ⟨t7, ht7, h⟩ := h
              refine wk_math_Copysign H hS  ht7 ?_; clear hS ht7; rintro z3 w rfl hS
              refine ⟨_, rfl, ?_⟩
              have h := some_inj h
              cases h
              exact hK _ _ rfl hS
            · have h := some_inj h
              cases h
              exact hK _ _ rfl hS
          · have h := some_inj h
            cases h
            exact hK _ _ rfl hS
        · replace h := bnd h
          obtain ⟨t8, ht8, h⟩ := h
          refine wk_math_Copysign H hS  ht8 ?_; clear hS ht8; rintro z4 w rfl hS
          refine ⟨_, rfl, ?_⟩
          have h := some_inj h
          cases h
          exact hK _ _ rfl hS
      · replace h := bnd h
        obtain ⟨t9, ht9, h⟩ := h
        obtain rfl := flt_s ht9
        clear ht9
        refine cond_s h ?_ ?_ <;> clear h <;> intro hc h
        · refine cond_s h ?_ ?_ <;> clear h <;> intro hc h
          · replace h := bnd h
            obtain ⟨t10, ht10, h⟩ := h
            refine wk_math_Copysign H hS  ht10 ?_; clear hS ht10; rintro z5 w rfl hS
            refine ⟨_, rfl, ?_⟩
            have h := some_inj h
            cases h
            exact hK _ _ rfl hS
          · have h := some_inj h
            cases h
            exact hK _ _ rfl hS
        · have h := some_inj h
          cases h
          exact hK _ _ rfl hS
    · refine cond_s h ?_ ?_ <;> clear h <;> intro hc h
      · refine cond_s h ?_ ?_ <;> clear h <;> intro hc h
        · refine cond_s h ?_ ?_ <;> clear h <;> intro hc h
          · refine cond_s h ?_ ?_ <;> clear h <;> intro hc h
            · replace h := bnd h
              obtain ⟨t11, ht11, h⟩ := h
              refine wk_round_step H hS  ht11 ?_; clear hS ht11; rintro z6 w rfl hS
              refine ⟨_, rfl, ?_⟩
              have h := some_inj h
              cases h
              exact hK _ _ rfl hS
            · have h := some_inj h
              cases h
              exact hK _ _ rfl hS
          · have h := some_inj h
            cases h
            exact hK _ _ rfl hS
        · replace h := bnd h
          obtain ⟨t12, ht12, h⟩ := h
          refine wk_round_step H hS  ht12 ?_; clear hS ht12; rintro z7 w rfl hS
          refine ⟨_, rfl, ?_⟩
          have h := some_inj h
          cases h
          exact hK _ _ rfl hS
      · refine cond_s h ?_ ?_ <;> clear h <;> intro hc h
        · refine cond_s h ?_ ?_ <;> clear h <;> intro hc h
          · replace h := bnd h
            obtain ⟨t13, ht13, h⟩ := h
            refine wk_round_step H hS  ht13 ?_; clear hS ht13; rintro z8 w rfl hS
            refine ⟨_, rfl, ?_⟩
            have h := some_inj h
            cases h
            exact hK _ _ rfl hS
          · have h := some_inj h
            cases h
            exact hK _ _ rfl hS
        · have h := some_inj h
          cases h
          exact hK _ _ rfl hS

theorem wk_round_sign {N : Nums} {P : Program} (H : AllOk N P) {w0 w : World} {L : List It} {q0 : Nat} {u0 : Int} (hS : Ho w0 w (L))  (hx : T_round_sign (nf q0) = some u0) {K : Value → World → Prop} (hK : ∀  (w1 : World), Ho w0 w1 (L) → K (.int .i64 u0) w1) : CallsX P N.f_round_sign #[.float .f64 q0] w K := by
  refine H.round_sign q0 w _ ?_
  unfold S_round_sign
  unfold T_round_sign at hx
  have h := hx
  clear hx
  try dsimp only
  replace h := bnd h
  obtain ⟨t1, ht1, h⟩ := h
  obtain rfl := fgt_s ht1
  clear ht1
  refine cond_s h ?_ ?_ <;> clear h <;> intro hc h
  · have h := some_inj h
    cases h
    exact hK _ hS
  · replace h := bnd h
    obtain ⟨t2, ht2, h⟩ := h
    obtain rfl := flt_s ht2
    clear ht2
    refine cond_s h ?_ ?_ <;> clear h <;> intro hc h
    · have h := some_inj h
      cases h
      exact hK _ hS
    · have h := some_inj h
      cases h
      exact hK _ hS

theorem wk_round_Add {N : Nums} {P : Program} (H : AllOk N P) {w0 w : World} {L : List It} {q0 : Nat} {q1 : Nat} {q2 : Int} {u0 : Nat} (hS : Ho w0 w (L))  (hx : T_round_Add (nf q0) (nf q1) q2 = some u0) {K : Value → World → Prop} (hK : ∀ (z0 : Nat) (w1 : World), nf z0 = u0 → Ho w0 w1 (L) → K (.float .f64 z0) w1) : CallsX P N.f_round_Add #[.float .f64 q0, .float .f64 q1, .int .i8 q2] w K := by
  refine H.round_Add q0 q1 q2 w _ ?_
  unfold S_round_Add
  unfold T_round_Add at hx
  have h := hx
  clear hx
  try dsimp only
  replace h := bnd h
  obtain ⟨t1, ht1, h⟩ := h
  refine wk_round_way H hS  ht1 ?_; clear hS ht1; rintro w hS
  refine ⟨_, rfl, ?_⟩
  replace h := bnd h
  obtain ⟨t2, ht2, h⟩ := h
  refine fadd_s ht2 hS ?_; clear hS ht2; rintro z1 w rfl hS
  replace h := bnd h
  obtain ⟨t3, ht3, h⟩ := h
  obtain rfl : (List.map nf ([q0, q1] : List Nat)) = t3 := some_inj ht3
  clear ht3
  refine lit_s (ks := [q0, q1]) (enc := (Value.float .f64)) (m := 2) hS rfl rfl ?_; clear hS; intro r2 w hS
  replace h := bnd h
  obtain ⟨t4, ht4, h⟩ := h
  refine wk_round_finite H hS (Ent.sl mp0) ht4 ?_; clear hS ht4; rintro w hS
  refine ⟨_, rfl, ?_⟩
  refine cond_s h ?_ ?_ <;> clear h <;> intro hc h
  · have h := some_inj h
    cases h
    exact hK _ _ rfl (hS.pick (A := [_]) [] rfl)
  · replace h := bnd h
    obtain ⟨o3, h3, c3⟩ := h
    refine cutM_i (fun s w => ∃ (t5 : Bool), t5 = o3 ∧ s = (t5, ()) ∧ Ho w0 w (L)) (fun J3 hJ3 => ?_) ?_
    · have h := h3
      clear h3
      replace h := bnd h
      obtain ⟨t6, ht6, h⟩ := h
      obtain rfl := feq_s ht6
      clear ht6
      refine cond_s h ?_ ?_ <;> clear h <;> intro hc h
      · replace h := bnd h
        obtain ⟨t7, ht7, h⟩ := h
        obtain rfl := fne_s ht7
        clear ht7
        refine cond_s h ?_ ?_ <;> clear h <;> intro hc h
        · replace h := bnd h
          obtain ⟨t8, ht8, h⟩ := h
          obtain rfl := feq_s ht8
          clear ht8
          refine cond_s h ?_ ?_ <;> clear h <;> intro hc h
          · replace h := bnd h
            obtain ⟨t9, ht9, h⟩ := h
            refine wk_math_Signbit H hS  ht9 ?_; clear hS ht9; rintro w hS
            refine ⟨_, rfl, ?_⟩
            replace h := bnd h
            obtain ⟨t10, ht10, h⟩ := h
            refine wk_math_Signbit H hS  ht10 ?_; clear hS ht10; rintro w hS
            refine ⟨_, rfl, ?_⟩
            obtain rfl := some_inj h
            exact hJ3 _ _ ⟨_, rfl, rfl, (hS.pick (A := [_]) [] rfl)⟩
          · obtain rfl := some_inj h
            exact hJ3 _ _ ⟨_, rfl, rfl, (hS.pick (A := [_]) [] rfl)⟩
        · obtain rfl := some_inj h
          exact hJ3 _ _ ⟨_, rfl, rfl, (hS.pick (A := [_]) [] rfl)⟩
      · replace h := bnd h
        obtain ⟨t11, ht11, h⟩ := h
        obtain rfl := feq_s ht11
        clear ht11
        refine cond_s h ?_ ?_ <;> clear h <;> intro hc h
        · replace h := bnd h
          obtain ⟨t12, ht12, h⟩ := h
          refine wk_math_Signbit H hS  ht12 ?_; clear hS ht12; rintro w hS
          refine ⟨_, rfl, ?_⟩
          replace h := bnd h
          obtain ⟨t13, ht13, h⟩ := h
          refine wk_math_Signbit H hS  ht13 ?_; clear hS ht13; rintro w hS
          refine ⟨_, rfl, ?_⟩
          obtain rfl := some_inj h
          exact hJ3 _ _ ⟨_, rfl, rfl, (hS.pick (A := [_]) [] rfl)⟩
        · obtain rfl := some_inj h
          exact hJ3 _ _ ⟨_, rfl, rfl, (hS.pick (A := [_]) [] rfl)⟩
    · clear h3 hS
      rintro s w ⟨t5, rfl, rfl, hS⟩
      have h := c3
      clear c3
      try dsimp only
      refine cond_s h ?_ ?_ <;> clear h <;> intro hc h
      · replace h := bnd h
        obtain ⟨t14, ht14, h⟩ := h
        refine wk_round_none H hS  ht14 ?_; clear hS ht14; rintro z4 w rfl hS
        refine ⟨_, rfl, ?_⟩
        have h := some_inj h
        cases h
        exact hK _ _ rfl hS
      · replace h := bnd h
        obtain ⟨t15, ht15, h⟩ := h
        obtain rfl := feq_s ht15
        clear ht15
        refine cond_s h ?_ ?_ <;> clear h <;> intro hc h
        · have h := some_inj h
          cases h
          exact hK _ _ rfl hS
        · replace h := bnd h
          obtain ⟨t16, ht16, h⟩ := h
          refine wk_math_IsInf H hS  ht16 ?_; clear hS ht16; rintro w hS
          refine ⟨_, rfl, ?_⟩
          refine cond_s h ?_ ?_ <;> clear h <;> intro hc h
          · replace h := bnd h
            obtain ⟨t17, ht17, h⟩ := h
            refine wk_round_settle H hS  ht17 ?_; clear hS ht17; rintro z5 w rfl hS
            refine ⟨_, rfl, ?_⟩
            have h := some_inj h
            cases h
            exact hK _ _ rfl hS
          · replace h := bnd h
            obtain ⟨t18, ht18, h⟩ := h
            refine wk_math_Abs H hS  ht18 ?_; clear hS ht18; rintro z6 w rfl hS
            refine ⟨_, rfl, ?_⟩
            replace h := bnd h
            obtain ⟨t19, ht19, h⟩ := h
            refine wk_math_Abs H hS  ht19 ?_; clear hS ht19; rintro z7 w rfl hS
            refine ⟨_, rfl, ?_⟩
            replace h := bnd h
            obtain ⟨t20, ht20, h⟩ := h
            obtain rfl := flt_s ht20
            clear ht20
            replace h := bnd h
            obtain ⟨o10, h10, c10⟩ := h
            refine cutM_i (fun s w => ∃ (z8 : Nat) (z9 : Nat), ((nf z8), (nf z9)) = o10 ∧ s = (z8, z9, ()) ∧ Ho w0 w (L)) (fun J10 hJ10 => ?_) ?_
            · have h := h10
              clear h10
              refine cond_s h ?_ ?_ <;> clear h <;> intro hc h
              · obtain rfl := some_inj h
                exact hJ10 _ _ ⟨_, _, rfl, rfl, hS⟩
              · obtain rfl := some_inj h
                exact hJ10 _ _ ⟨_, _, rfl, rfl, hS⟩
            · clear h10 hS
              rintro s w ⟨z8, z9, rfl, rfl, hS⟩
              have h := c10
              clear c10
              try dsimp only
              replace h := bnd h
              obtain ⟨t23, ht23, h⟩ := h
              refine fsub_s ht23 hS ?_; clear hS ht23; rintro z11 w rfl hS
              replace h := bnd h
              obtain ⟨t24, ht24, h⟩ := h
              refine fsub_s ht24 hS ?_; clear hS ht24; rintro z12 w rfl hS
              replace h := bnd h
              obtain ⟨t25, ht25, h⟩ := h
              refine wk_round_sign H hS  ht25 ?_; clear hS ht25; rintro w hS
              refine ⟨_, rfl, ?_⟩
              replace h := bnd h
              obtain ⟨t26, ht26, h⟩ := h
              refine wk_round_settle H hS  ht26 ?_; clear hS ht26; rintro z13 w rfl hS
              refine ⟨_, rfl, ?_⟩
              have h := some_inj h
              cases h
              exact hK _ _ rfl hS

theorem wk_vector_Norm {N : Nums} {P : Program} (H : AllOk N P) {w0 w : World} {L : List It} {q0 : Option Addr} {q0l q0c : Nat} {ws0 : List Nat} {u0 : Nat} (hS : Ho w0 w (L)) (hq0 : Ent L (rdA (List.map (Value.float .f64) ws0) q0 q0l q0c)) (hx : T_vector_Norm (List.map nf ws0) = some u0) {K : Value → World → Prop} (hK : ∀ (z0 : Nat) (w1 : World), nf z0 = u0 → Ho w0 w1 (L) → K (.float .f64 z0) w1) : CallsX P N.f_vector_Norm #[.slice q0 q0l q0c] w K := by
  refine H.vector_Norm q0 q0l q0c w _ ?_
  unfold S_vector_Norm
  unfold T_vector_Norm at hx
  have h := hx
  clear hx
  try dsimp only
  replace h := bnd h
  obtain ⟨t1, ht1, h⟩ := h
  obtain rfl := lenF ht1 (hq0.now (fun _ h => h) hS)
  clear ht1
  replace h := bnd h
  obtain ⟨o2, h2, c2⟩ := h
  refine cutM_i (fun s w => ∃ (z1 : Nat), (nf z1) = o2 ∧ s = (z1, ()) ∧ Ho w0 w (L)) (fun J2 hJ2 => ?_) ?_
  · have h := h2
    clear h2
    refine iter_sim (fun s w t => ∃ (z3 : Nat) (t4 : Int), ((nf z3), t4) = t ∧ s = (z3, t4, ()) ∧ Ho w0 w (L)) ?_ h ⟨_, _, rfl, rfl, hS⟩
    clear h hS
    rintro s w t X q ⟨z3, t4, rfl, rfl, hS⟩ h hX hO
    unfold T_vector_Norm_b2 at h
    try dsimp only
    refine cond_s h ?_ ?_ <;> clear h <;> intro hc h
    · replace h := bnd h
      obtain ⟨t5, ht5, h⟩ := h
      obtain ⟨z4, rfl, q5x, q5l, q5r⟩ := atF ht5
      clear ht5
      refine idx_s (hq0.now (fun _ h => h) hS) q5x q5l q5r ?_; intro b6 hb6
      refine ⟨_, rd_get (hq0.now (fun _ h => h) hS) hb6 q5x, ?_⟩
      replace h := bnd h
      obtain ⟨t6, ht6, h⟩ := h
      refine wk_math_Abs H hS  ht6 ?_; clear hS ht6; rintro z7 w rfl hS
      refine ⟨_, rfl, ?_⟩
      replace h := bnd h
      obtain ⟨t7, ht7, h⟩ := h
      refine wk_round_Add H hS  ht7 ?_; clear hS ht7; rintro z8 w rfl hS
      refine ⟨_, rfl, ?_⟩
      obtain rfl := some_inj h
      exact hX _ rfl _ _ ⟨_, _, rfl, rfl, hS⟩
    · obtain rfl := some_inj h
      have h := congrArg some (hO _ rfl)
      obtain rfl := some_inj h
      exact hJ2 _ _ ⟨_, rfl, rfl, hS⟩
  · clear h2 hS
    rintro s w ⟨z1, rfl, rfl, hS⟩
    have h := c2
    clear c2
    try dsimp only
    have h := some_inj h
    cases h
    exact hK _ _ rfl hS

theorem wk_girderref03_Finite {N : Nums} {P : Program} (H : AllOk N P) {w0 w : World} {L : List It} {q0 : Nat} {u0 : Bool} (hS : Ho w0 w (L))  (hx : T_girderref03_Finite (nf q0) = some u0) {K : Value → World → Prop} (hK : ∀  (w1 : World), Ho w0 w1 (L) → K (.bool u0) w1) : CallsX P N.f_girderref03_Finite #[.float .f64 q0] w K := by
  refine H.girderref03_Finite q0 w _ ?_
  unfold S_girderref03_Finite
  unfold T_girderref03_Finite at hx
  have h := hx
  clear hx
  try dsimp only
  replace h := bnd h
  obtain ⟨t1, ht1, h⟩ := h
  refine fsub_s ht1 hS ?_; clear hS ht1; rintro z1 w rfl hS
  replace h := bnd h
  obtain ⟨t2, ht2, h⟩ := h
  obtain rfl := feq_s ht2
  clear ht2
  have h := some_inj h
  cases h
  exact hK _ hS

theorem wk_girderref03_great {N : Nums} {P : Program} (H : AllOk N P) {w0 w : World} {L : List It} {q0 : Nat} {q1 : Int} {u0 : Nat} (hS : Ho w0 w (L))  (hx : T_girderref03_great (nf q0) q1 = some u0) {K : Value → World → Prop} (hK : ∀ (z0 : Nat) (w1 : World), nf z0 = u0 → Ho w0 w1 (L) → K (.float .f64 z0) w1) : CallsX P N.f_girderref03_great #[.float .f64 q0, .int .i8 q1] w K := by
  refine H.girderref03_great q0 q1 w _ ?_
  unfold S_girderref03_great
  unfold T_girderref03_great at hx
  have h := hx
  clear hx
  try dsimp only
  refine cond_s h ?_ ?_ <;> clear h <;> intro hc h
  · replace h := bnd h
    obtain ⟨t1, ht1, h⟩ := h
    obtain rfl := fgt_s ht1
    clear ht1
    refine cond_s h ?_ ?_ <;> clear h <;> intro hc h
    · refine cond_s h ?_ ?_ <;> clear h <;> intro hc h
      · replace h := bnd h
        obtain ⟨t2, ht2, h⟩ := h
        obtain rfl := flt_s ht2
        clear ht2
        refine cond_s h ?_ ?_ <;> clear h <;> intro hc h
        · refine cond_s h ?_ ?_ <;> clear h <;> intro hc h
          · replace h := bnd h
            obtain ⟨t3, ht3, h⟩ := h
            refine wk_math_Copysign H hS  ht3 ?_; clear hS ht3; rintro z1 w rfl hS
            refine ⟨_, rfl, ?_⟩
            have h := some_inj h
            cases h
            exact hK _ _ rfl hS
          · have h := some_inj h
            cases h
            exact hK _ _ rfl hS
        · have h := some_inj h
          cases h
          exact hK _ _ rfl hS
      · replace h := bnd h
        obtain ⟨t4, ht4, h⟩ := h
        refine wk_math_Copysign H hS  ht4 ?_; clear hS ht4; rintro z2 w rfl hS
        refine ⟨_, rfl, ?_⟩
        have h := some_inj h
        cases h
        exact hK _ _ rfl hS
    · replace h := bnd h
      obtain ⟨t5, ht5, h⟩ := h
      obtain rfl := flt_s ht5
      clear ht5
      refine cond_s h ?_ ?_ <;> clear h <;> intro hc h
      · refine cond_s h ?_ ?_ <;> clear h <;> intro hc h
        · replace h := bnd h
          obtain ⟨t6, ht6, h⟩ := h
          refine wk_math_Copysign H hS  ht6 ?_; clear hS ht6; rintro z3 w rfl hS
          refine ⟨_, rfl, ?_⟩
          have h := some_inj h
          cases h
          exact hK _ _ rfl hS
        · have h := some_inj h
          cases h
          exact hK _ _ rfl hS
      · have h := some_inj h
        cases h
        exact hK _ _ rfl hS
  · replace h := bnd h
    obtain ⟨t7, ht7, h⟩ := h
    refine wk_math_Copysign H hS  ht7 ?_; clear hS ht7; rintro z4 w rfl hS
    refine ⟨_, rfl, ?_⟩
    have h := some_inj h
    cases h
    exact hK _ _ rfl hS

theorem wk_girderref03_nought {N : Nums} {P : Program} (H : AllOk N P) {w0 w : World} {L : List It} {q0 : Bool} {q1 : Bool} {q2 : Nat} {q3 : Int} {u0 : Nat} (hS : Ho w0 w (L))  (hx : T_girderref03_nought q0 q1 (nf q2) q3 = some u0) {K : Value → World → Prop} (hK : ∀ (z0 : Nat) (w1 : World), nf z0 = u0 → Ho w0 w1 (L) → K (.float .f64 z0) w1) : CallsX P N.f_girderref03_nought #[.bool q0, .bool q1, .float .f64 q2, .int .i8 q3] w K := by
  refine H.girderref03_nought q0 q1 q2 q3 w _ ?_
  unfold S_girderref03_nought
  unfold T_girderref03_nought at hx
  have h := hx
  clear hx
  try dsimp only
  refine cond_s h ?_ ?_ <;> clear h <;> intro hc h
  · replace h := bnd h
    obtain ⟨t1, ht1, h⟩ := h
    obtain rfl := feq_s ht1
    clear ht1
    refine cond_s h ?_ ?_ <;> clear h <;> intro hc h
    · replace h := bnd h
      obtain ⟨t2, ht2, h⟩ := h
      refine wk_math_Signbit H hS  ht2 ?_; clear hS ht2; rintro w hS
      refine ⟨_, rfl, ?_⟩
      refine cond_s h ?_ ?_ <;> clear h <;> intro hc h
      · have h := some_inj h
        cases h
        exact hK _ _ rfl hS
      · refine cond_s h ?_ ?_ <;> clear h <;> intro hc h
        · replace h := bnd h
          obtain ⟨t3, ht3, h⟩ := h
          refine wk_math_Copysign H hS  ht3 ?_; clear hS ht3; rintro z1 w rfl hS
          refine ⟨_, rfl, ?_⟩
          have h := some_inj h
          cases h
          exact hK _ _ rfl hS
        · have h := some_inj h
          cases h
          exact hK _ _ rfl hS
    · refine cond_s h ?_ ?_ <;> clear h <;> intro hc h
      · replace h := bnd h
        obtain ⟨t4, ht4, h⟩ := h
        refine wk_math_Copysign H hS  ht4 ?_; clear hS ht4; rintro z2 w rfl hS
        refine ⟨_, rfl, ?_⟩
        have h := some_inj h
        cases h
        exact hK _ _ rfl hS
      · have h := some_inj h
        cases h
        exact hK _ _ rfl hS
  · refine cond_s h ?_ ?_ <;> clear h <;> intro hc h
    · replace h := bnd h
      obtain ⟨t5, ht5, h⟩ := h
      refine wk_math_Copysign H hS  ht5 ?_; clear hS ht5; rintro z3 w rfl hS
      refine ⟨_, rfl, ?_⟩
      have h := some_inj h
      cases h
      exact hK _ _ rfl hS
    · have h := some_inj h
      cases h
      exact hK _ _ rfl hS

theorem wk_girderref03_sign {N : Nums} {P : Program} (H : AllOk N P) {w0 w : World} {L : List It} {q0 : Nat} {u0 : Int} (hS : Ho w0 w (L))  (hx : T_girderref03_sign (nf q0) = some u0) {K : Value → World → Prop} (hK : ∀  (w1 : World), Ho w0 w1 (L) → K (.int .i64 u0) w1) : CallsX P N.f_girderref03_sign #[.float .f64 q0] w K := by
  refine H.girderref03_sign q0 w _ ?_
  unfold S_girderref03_sign
  unfold T_girderref03_sign at hx
  have h := hx
  clear hx
  try dsimp only
  replace h := bnd h
  obtain ⟨t1, ht1, h⟩ := h
  obtain rfl := flt_s ht1
  clear ht1
  refine cond_s h ?_ ?_ <;> clear h <;> intro hc h
  · have h := some_inj h
    cases h
    exact hK _ hS
  · replace h := bnd h
    obtain ⟨t2, ht2, h⟩ := h
    obtain rfl := fgt_s ht2
    clear ht2
    refine cond_s h ?_ ?_ <;> clear h <;> intro hc h
    · have h := some_inj h
      cases h
      exact hK _ hS
    · have h := some_inj h
      cases h
      exact hK _ hS

theorem wk_girderref03_further {N : Nums} {P : Program} (H : AllOk N P) {w0 w : World} {L : List It} {q0 : Nat} {u0 : Nat} (hS : Ho w0 w (L))  (hx : T_girderref03_further (nf q0) = some u0) {K : Value → World → Prop} (hK : ∀ (z0 : Nat) (w1 : World), nf z0 = u0 → Ho w0 w1 (L) → K (.float .f64 z0) w1) : CallsX P N.f_girderref03_further #[.float .f64 q0] w K := by
  refine H.girderref03_further q0 w _ ?_
  unfold S_girderref03_further
  unfold T_girderref03_further at hx
  have h := hx
  clear hx
  try dsimp only
  replace h := bnd h
  obtain ⟨t1, ht1, h⟩ := h
  refine wk_math_Float64bits H hS  ht1 ?_; clear hS ht1; rintro w hS
  refine ⟨_, rfl, ?_⟩
  replace h := bnd h
  obtain ⟨t2, ht2, h⟩ := h
  refine wk_math_Float64frombits H hS  ht2 ?_; clear hS ht2; rintro z1 w rfl hS
  refine ⟨_, rfl, ?_⟩
  have h := some_inj h
  cases h
  exact hK _ _ rfl hS

theorem wk_girderref03_nearer {N : Nums} {P : Program} (H : AllOk N P) {w0 w : World} {L : List It} {q0 : Nat} {u0 : Nat} (hS : Ho w0 w (L))  (hx : T_girderref03_nearer (nf q0) = some u0) {K : Value → World → Prop} (hK : ∀ (z0 : Nat) (w1 : World), nf z0 = u0 → Ho w0 w1 (L) → K (.float .f64 z0) w1) : CallsX P N.f_girderref03_nearer #[.float .f64 q0] w K := by
  refine H.girderref03_nearer q0 w _ ?_
  unfold S_girderref03_nearer
  unfold T_girderref03_nearer at hx
  have h := hx
  clear hx
  try dsimp only
  replace h := bnd h
  obtain ⟨t1, ht1, h⟩ := h
  refine wk_math_Float64bits H hS  ht1 ?_; clear hS ht1; rintro w hS
  refine ⟨_, rfl, ?_⟩
  replace h := bnd h
  obtain ⟨t2, ht2, h⟩ := h
  refine wk_math_Float64frombits H hS  ht2 ?_; clear hS ht2; rintro z1 w rfl hS
  refine ⟨_, rfl, ?_⟩
  have h := some_inj h
  cases h
  exact hK _ _ rfl hS

theorem wk_girderref03_up {N : Nums} {P : Program} (H : AllOk N P) {w0 w : World} {L : List It} {q0 : Nat} {u0 : Nat} (hS : Ho w0 w (L))  (hx : T_girderref03_up (nf q0) = some u0) {K : Value → World → Prop} (hK : ∀ (z0 : Nat) (w1 : World), nf z0 = u0 → Ho w0 w1 (L) → K (.float .f64 z0) w1) : CallsX P N.f_girderref03_up #[.float .f64 q0] w K := by
  refine H.girderref03_up q0 w _ ?_
  unfold S_girderref03_up
  unfold T_girderref03_up at hx
  have h := hx
  clear hx
  try dsimp only
  replace h := bnd h
  obtain ⟨t1, ht1, h⟩ := h
  obtain rfl := feq_s ht1
  clear ht1
  refine cond_s h ?_ ?_ <;> clear h <;> intro hc h
  · replace h := bnd h
    obtain ⟨t2, ht2, h⟩ := h
    refine wk_math_Float64frombits H hS  ht2 ?_; clear hS ht2; rintro z1 w rfl hS
    refine ⟨_, rfl, ?_⟩
    have h := some_inj h
    cases h
    exact hK _ _ rfl hS
  · replace h := bnd h
    obtain ⟨t3, ht3, h⟩ := h
    obtain rfl := fgt_s ht3
    clear ht3
    refine cond_s h ?_ ?_ <;> clear h <;> intro hc h
    · replace h := bnd h
      obtain ⟨t4, ht4, h⟩ := h
      refine wk_girderref03_further H hS  ht4 ?_; clear hS ht4; rintro z2 w rfl hS
      refine ⟨_, rfl, ?_⟩
      have h := some_inj h
      cases h
      exact hK _ _ rfl hS
    · replace h := bnd h
      obtain ⟨t5, ht5, h⟩ := h
      refine wk_girderref03_nearer H hS  ht5 ?_; clear hS ht5; rintro z3 w rfl hS
      refine ⟨_, rfl, ?_⟩
      have h := some_inj h
      cases h
      exact hK _ _ rfl hS

theorem wk_girderref03_down {N : Nums} {P : Program} (H : AllOk N P) {w0 w : World} {L : List It} {q0 : Nat} {u0 : Nat} (hS : Ho w0 w (L))  (hx : T_girderref03_down (nf q0) = some u0) {K : Value → World → Prop} (hK : ∀ (z0 : Nat) (w1 : World), nf z0 = u0 → Ho w0 w1 (L) → K (.float .f64 z0) w1) : CallsX P N.f_girderref03_down #[.float .f64 q0] w K := by
  refine H.girderref03_down q0 w _ ?_
  unfold S_girderref03_down
  unfold T_girderref03_down at hx
  have h := hx
  clear hx
  try dsimp only
  replace h := bnd h
  obtain ⟨t1, ht1, h⟩ := h
  obtain rfl := fneg_s ht1
  clear ht1
  replace h := bnd h
  obtain ⟨t2, ht2, h⟩ := h
  refine wk_girderref03_up H hS  ht2 ?_; clear hS ht2; rintro z1 w rfl hS
  refine ⟨_, rfl, ?_⟩
  replace h := bnd h
  obtain ⟨t3, ht3, h⟩ := h
  obtain rfl := fneg_s ht3
  clear ht3
  have h := some_inj h
  cases h
  exact hK _ _ rfl hS

theorem wk_girderref03_side {N : Nums} {P : Program} (H : AllOk N P) {w0 w : World} {L : List It} {q0 : Nat} {q1 : Int} {q2 : Int} {u0 : Nat} (hS : Ho w0 w (L))  (hx : T_girderref03_side (nf q0) q1 q2 = some u0) {K : Value → World → Prop} (hK : ∀ (z0 : Nat) (w1 : World), nf z0 = u0 → Ho w0 w1 (L) → K (.float .f64 z0) w1) : CallsX P N.f_girderref03_side #[.float .f64 q0, .int .i64 q1, .int .i8 q2] w K := by
  refine H.girderref03_side q0 q1 q2 w _ ?_
  unfold S_girderref03_side
  unfold T_girderref03_side at hx
  have h := hx
  clear hx
  try dsimp only
  replace h := bnd h
  obtain ⟨t1, ht1, h⟩ := h
  refine wk_math_Signbit H hS  ht1 ?_; clear hS ht1; rintro w hS
  refine ⟨_, rfl, ?_⟩
  replace h := bnd h
  obtain ⟨o1, h1, c1⟩ := h
  refine cutM_i (fun s w => ∃ (t2 : Bool), t2 = o1 ∧ s = (t2, ()) ∧ Ho w0 w (L)) (fun J1 hJ1 => ?_) ?_
  · have h := h1
    clear h1
    refine cond_s h ?_ ?_ <;> clear h <;> intro hc h
    · refine cond_s h ?_ ?_ <;> clear h <;> intro hc h
      · refine cond_s h ?_ ?_ <;> clear h <;> intro hc h
        · refine cond_s h ?_ ?_ <;> clear h <;> intro hc h
          · replace h := bnd h
            obtain ⟨t3, ht3, h⟩ := h
            obtain rfl := fne_s ht3
            clear ht3
            obtain rfl := some_inj h
            exact hJ1 _ _ ⟨_, rfl, rfl, hS⟩
          · obtain rfl := some_inj h
            exact hJ1 _ _ ⟨_, rfl, rfl, hS⟩
        · obtain rfl := some_inj h
          exact hJ1 _ _ ⟨_, rfl, rfl, hS⟩
      · obtain rfl := some_inj h
        exact hJ1 _ _ ⟨_, rfl, rfl, hS⟩
    · obtain rfl := some_inj h
      exact hJ1 _ _ ⟨_, rfl, rfl, hS⟩
  · clear h1 hS
    rintro s w ⟨t2, rfl, rfl, hS⟩
    have h := c1
    clear c1
    try dsimp only
    refine cond_s h ?_ ?_ <;> clear h <;> intro hc h
    · replace h := bnd h
      obtain ⟨t4, ht4, h⟩ := h
      refine wk_girderref03_down H hS  ht4 ?_; clear hS ht4; rintro z2 w rfl hS
      refine ⟨_, rfl, ?_⟩
      have h := some_inj h
      cases h
      exact hK _ _ rfl hS
    · refine cond_s h ?_ ?_ <;> clear h <;> intro hc h
      · refine cond_s h ?_ ?_ <;> clear h <;> intro hc h
        · refine cond_s h ?_ ?_ <;> clear h <;> intro hc h
          · refine cond_s h ?_ ?_ <;> clear h <;> intro hc h
            · replace h := bnd h
              obtain ⟨t5, ht5, h⟩ := h
              obtain rfl := fne_s ht5
              clear ht5
              refine cond_s h ?_ ?_ <;> clear h <;> intro hc h
              · replace h := bnd h
                obtain ⟨t6, ht6, h⟩ := h
                refine wk_girderref03_up H hS  ht6 ?_; clear hS ht6; rintro z3 w rfl hS
                refine ⟨_, rfl, ?_⟩
                have h := some_inj h
                cases h
                exact hK _ _ rfl hS
              · have h := some_inj h
                cases h
                exact hK _ _ rfl hS
            · have h := some_inj h
              cases h
              exact hK _ _ rfl hS
          · have h := some_inj h
            cases h
            exact hK _ _ rfl hS
        · replace h := bnd h
          obtain ⟨t7, ht7, h⟩ := h
          refine wk_girderref03_up H hS  ht7 ?_; clear hS ht7; rintro z4 w rfl hS
          refine ⟨_, rfl, ?_⟩
          have h := some_inj h
          cases h
          exact hK _ _ rfl hS
      · have h := some_inj h
        cases h
        exact hK _ _ rfl hS

theorem wk_girderref03_Add {N : Nums} {P : Program} (H : AllOk N P) {w0 w : World} {L : List It} {q0 : Nat} {q1 : Nat} {q2 : Int} {u0 : Nat} (hS : Ho w0 w (L))  (hx : T_girderref03_Add (nf q0) (nf q1) q2 = some u0) {K : Value → World → Prop} (hK : ∀ (z0 : Nat) (w1 : World), nf z0 = u0 → Ho w0 w1 (L) → K (.float .f64 z0) w1) : CallsX P N.f_girderref03_Add #[.float .f64 q0, .float .f64 q1, .int .i8 q2] w K := by
  refine H.girderref03_Add q0 q1 q2 w _ ?_
  unfold S_girderref03_Add
  unfold T_girderref03_Add at hx
  have h := hx
  clear hx
  try dsimp only
  replace h := bnd h
  obtain ⟨t1, ht1, h⟩ := h
  refine fadd_s ht1 hS ?_; clear hS ht1; rintro z1 w rfl hS
  replace h := bnd h
  obtain ⟨t2, ht2, h⟩ := h
  refine wk_girderref03_Finite H hS  ht2 ?_; clear hS ht2; rintro w hS
  refine ⟨_, rfl, ?_⟩
  refine cond_s h ?_ ?_ <;> clear h <;> intro hc h
  · replace h := bnd h
    obtain ⟨t3, ht3, h⟩ := h
    refine wk_girderref03_Finite H hS  ht3 ?_; clear hS ht3; rintro w hS
    refine ⟨_, rfl, ?_⟩
    refine cond_s h ?_ ?_ <;> clear h <;> intro hc h
    · have h := some_inj h
      cases h
      exact hK _ _ rfl hS
    · replace h := bnd h
      obtain ⟨t4, ht4, h⟩ := h
      refine wk_girderref03_Finite H hS  ht4 ?_; clear hS ht4; rintro w hS
      refine ⟨_, rfl, ?_⟩
      refine cond_s h ?_ ?_ <;> clear h <;> intro hc h
      · replace h := bnd h
        obtain ⟨t5, ht5, h⟩ := h
        refine wk_girderref03_great H hS  ht5 ?_; clear hS ht5; rintro z2 w rfl hS
        refine ⟨_, rfl, ?_⟩
        have h := some_inj h
        cases h
        exact hK _ _ rfl hS
      · replace h := bnd h
        obtain ⟨t6, ht6, h⟩ := h
        obtain rfl := feq_s ht6
        clear ht6
        refine cond_s h ?_ ?_ <;> clear h <;> intro hc h
        · replace h := bnd h
          obtain ⟨t7, ht7, h⟩ := h
          obtain rfl := feq_s ht7
          clear ht7
          replace h := bnd h
          obtain ⟨t8, ht8, h⟩ := h
          refine wk_math_Signbit H hS  ht8 ?_; clear hS ht8; rintro w hS
          refine ⟨_, rfl, ?_⟩
          replace h := bnd h
          obtain ⟨t9, ht9, h⟩ := h
          refine wk_girderref03_nought H hS  ht9 ?_; clear hS ht9; rintro z3 w rfl hS
          refine ⟨_, rfl, ?_⟩
          have h := some_inj h
          cases h
          exact hK _ _ rfl hS
        · replace h := bnd h
          obtain ⟨t10, ht10, h⟩ := h
          refine wk_math_Abs H hS  ht10 ?_; clear hS ht10; rintro z4 w rfl hS
          refine ⟨_, rfl, ?_⟩
          replace h := bnd h
          obtain ⟨t11, ht11, h⟩ := h
          refine wk_math_Abs H hS  ht11 ?_; clear hS ht11; rintro z5 w rfl hS
          refine ⟨_, rfl, ?_⟩
          replace h := bnd h
          obtain ⟨t12, ht12, h⟩ := h
          obtain rfl := flt_s ht12
          clear ht12
          replace h := bnd h
          obtain ⟨o8, h8, c8⟩ := h
          refine cutM_i (fun s w => ∃ (z6 : Nat) (z7 : Nat), ((nf z6), (nf z7)) = o8 ∧ s = (z6, z7, ()) ∧ Ho w0 w (L)) (fun J8 hJ8 => ?_) ?_
          · have h := h8
            clear h8
            refine cond_s h ?_ ?_ <;> clear h <;> intro hc h
            · obtain rfl := some_inj h
              exact hJ8 _ _ ⟨_, _, rfl, rfl, hS⟩
            · obtain rfl := some_inj h
              exact hJ8 _ _ ⟨_, _, rfl, rfl, hS⟩
          · clear h8 hS
            rintro s w ⟨z6, z7, rfl, rfl, hS⟩
            have h := c8
            clear c8
            try dsimp only
            replace h := bnd h
            obtain ⟨t15, ht15, h⟩ := h
            refine fsub_s ht15 hS ?_; clear hS ht15; rintro z9 w rfl hS
            replace h := bnd h
            obtain ⟨t16, ht16, h⟩ := h
            refine fsub_s ht16 hS ?_; clear hS ht16; rintro z10 w rfl hS
            replace h := bnd h
            obtain ⟨t17, ht17, h⟩ := h
            refine wk_girderref03_sign H hS  ht17 ?_; clear hS ht17; rintro w hS
            refine ⟨_, rfl, ?_⟩
            replace h := bnd h
            obtain ⟨t18, ht18, h⟩ := h
            refine wk_girderref03_side H hS  ht18 ?_; clear hS ht18; rintro z11 w rfl hS
            refine ⟨_, rfl, ?_⟩
            have h := some_inj h
            cases h
            exact hK _ _ rfl hS
  · have h := some_inj h
    cases h
    exact hK _ _ rfl hS

theorem wk_girderref09_Norm {N : Nums} {P : Program} (H : AllOk N P) {w0 w : World} {L : List It} {q0 : Option Addr} {q0l q0c : Nat} {ws0 : List Nat} {u0 : Nat} (hS : Ho w0 w (L)) (hq0 : Ent L (rdA (List.map (Value.float .f64) ws0) q0 q0l q0c)) (hx : T_girderref09_Norm (List.map nf ws0) = some u0) {K : Value → World → Prop} (hK : ∀ (z0 : Nat) (w1 : World), nf z0 = u0 → Ho w0 w1 (L) → K (.float .f64 z0) w1) : CallsX P N.f_girderref09_Norm #[.slice q0 q0l q0c] w K := by
  refine H.girderref09_Norm q0 q0l q0c w _ ?_
  unfold S_girderref09_Norm
  unfold T_girderref09_Norm at hx
  have h := hx
  clear hx
  try dsimp only
  replace h := bnd h
  obtain ⟨o2, h2, c2⟩ := h
  refine cutM_i (fun s w => ∃ (z1 : Nat), (nf z1) = o2 ∧ s = (z1, ()) ∧ Ho w0 w (L)) (fun J2 hJ2 => ?_) ?_
  · have h := h2
    clear h2
    refine iter_sim (fun s w t => ∃ (z3 : Nat) (t3 : Int), ((nf z3), t3) = t ∧ s = (z3, t3, ()) ∧ Ho w0 w (L)) ?_ h ⟨_, _, rfl, rfl, hS⟩
    clear h hS
    rintro s w t X q ⟨z3, t3, rfl, rfl, hS⟩ h hX hO
    unfold T_girderref09_Norm_b2 at h
    try dsimp only
    replace h := bnd h
    obtain ⟨t4, ht4, h⟩ := h
    obtain rfl := lenF ht4 (hq0.now (fun _ h => h) hS)
    clear ht4
    refine cond_s h ?_ ?_ <;> clear h <;> intro hc h
    · replace h := bnd h
      obtain ⟨t5, ht5, h⟩ := h
      obtain ⟨z4, rfl, q5x, q5l, q5r⟩ := atF ht5
      clear ht5
      refine idx_s (hq0.now (fun _ h => h) hS) q5x q5l q5r ?_; intro b6 hb6
      refine ⟨_, rd_get (hq0.now (fun _ h => h) hS) hb6 q5x, ?_⟩
      replace h := bnd h
      obtain ⟨t6, ht6, h⟩ := h
      refine wk_math_Abs H hS  ht6 ?_; clear hS ht6; rintro z7 w rfl hS
      refine ⟨_, rfl, ?_⟩
      replace h := bnd h
      obtain ⟨t7, ht7, h⟩ := h
      refine wk_girderref03_Add H hS  ht7 ?_; clear hS ht7; rintro z8 w rfl hS
      refine ⟨_, rfl, ?_⟩
      obtain rfl := some_inj h
      exact hX _ rfl _ _ ⟨_, _, rfl, rfl, hS⟩
    · obtain rfl := some_inj h
      have h := congrArg some (hO _ rfl)
      obtain rfl := some_inj h
      exact hJ2 _ _ ⟨_, rfl, rfl, hS⟩
  · clear h2 hS
    rintro s w ⟨z1, rfl, rfl, hS⟩
    have h := c2
    clear c2
    try dsimp only
    have h := some_inj h
    cases h
    exact hK _ _ rfl hS

theorem wk_girderkit_SameFloat {N : Nums} {P : Program} (H : AllOk N P) {w0 w : World} {L : List It} {q0 : Nat} {q1 : Nat} {u0 : Bool} (hS : Ho w0 w (L))  (hx : T_girderkit_SameFloat (nf q0) (nf q1) = some u0) {K : Value → World → Prop} (hK : ∀  (w1 : World), Ho w0 w1 (L) → K (.bool u0) w1) : CallsX P N.f_girderkit_SameFloat #[.float .f64 q0, .float .f64 q1] w K := by
  unfold T_girderkit_SameFloat at hx
  have hx := some_inj hx
  subst hx
  refine (sameFloat_c H q0 q1 w).mono ?_
  rintro _ w1 ⟨rfl, h1⟩
  exact hK _ (hS.next h1)

theorem wk_vector_Axpy_1 {N : Nums} {P : Program} (H : AllOk N P) {w0 w : World} {L : List It} {q0 : Nat} {q1 : Nat} {r_2 : Nat} {q2 : Nat} {u0 : Nat} (hS : Ho w0 w (L)) (eq2 : Ent L (cl r_2 [.float .f64 q2] N.t_float64).A) (hx : T_vector_Axpy_1 (nf q0) (nf q1) (nf q2) = some u0) {K : Value → World → Prop} (hK : ∀ (z0 : Nat) (w1 : World), nf z0 = u0 → Ho w0 w1 (L) → K (.float .f64 z0) w1) : CallsX P N.f_vector_Axpy_1 #[.float .f64 q0, .float .f64 q1, .pointer (some ⟨r_2, 0, none⟩)] w K := by
  refine H.vector_Axpy_1 q0 q1 (some ⟨r_2, 0, none⟩) w _ ?_
  unfold S_vector_Axpy_1
  unfold T_vector_Axpy_1 at hx
  have h := hx
  clear hx
  try dsimp only
  refine optM_s ?_
  refine ⟨_, (eq2.cel (fun _ h => h) hS rfl), ?_⟩
  replace h := bnd h
  obtain ⟨t1, ht1, h⟩ := h
  refine fmul_s ht1 hS ?_; clear hS ht1; rintro z1 w rfl hS
  replace h := bnd h
  obtain ⟨t2, ht2, h⟩ := h
  refine fadd_s ht2 hS ?_; clear hS ht2; rintro z2 w rfl hS
  have h := some_inj h
  cases h
  exact hK _ _ rfl hS

theorem wk_vector_fit {N : Nums} {P : Program} (H : AllOk N P) {w0 w : World} {L : List It} {q0 : Option Addr} {q0l q0c : Nat} {ws0 : List Nat} {q1 : Option Addr} {q1l q1c : Nat} {ws1 : List Nat} {u0 : Int} (hS : Ho w0 w (L)) (hq0 : Ent L (rdA (List.map (Value.float .f64) ws0) q0 q0l q0c)) (hq1 : Ent L (rdA (List.map (Value.float .f64) ws1) q1 q1l q1c)) (hx : T_vector_fit (List.map nf ws0) (List.map nf ws1) = some u0) {K : Value → World → Prop} (hK : ∀  (w1 : World), Ho w0 w1 (L) → K (.int .i64 u0) w1) : CallsX P N.f_vector_fit #[.slice q0 q0l q0c, .slice q1 q1l q1c] w K := by
  refine H.vector_fit q0 q0l q0c q1 q1l q1c w _ ?_
  unfold S_vector_fit
  unfold T_vector_fit at hx
  have h := hx
  clear hx
  try dsimp only
  replace h := bnd h
  obtain ⟨t1, ht1, h⟩ := h
  obtain rfl := lenF ht1 (hq0.now (fun _ h => h) hS)
  clear ht1
  replace h := bnd h
  obtain ⟨t2, ht2, h⟩ := h
  obtain rfl := lenF ht2 (hq1.now (fun _ h => h) hS)
  clear ht2
  refine cond_s h ?_ ?_ <;> clear h <;> intro hc h
  · have h := some_inj h
    cases h
    exact hK _ hS
  · replace h := bnd h
    obtain ⟨t3, ht3, h⟩ := h
    obtain rfl := lenF ht3 (hq0.now (fun _ h => h) hS)
    clear ht3
    refine cond_s h ?_ ?_ <;> clear h <;> intro hc h
    · have h := some_inj h
      cases h
      exact hK _ hS
    · have h := some_inj h
      cases h
      exact hK _ hS

theorem wk_vector_each {N : Nums} {P : Program} (H : AllOk N P) {w0 w : World} {L : List It} {q0 : Option Addr} {q0l q0c : Nat} {ws0 : List Nat} {q1 : Option Addr} {q1l q1c : Nat} {ws1 : List Nat} {q2 : Value} {f2 : Nat → Nat → Option Nat} {u0 : List Nat} {u1 : Int} (hS : Ho w0 w (L)) (hq0 : Ent L (rdA (List.map (Value.float .f64) ws0) q0 q0l q0c)) (hq1 : Ent L (rdA (List.map (Value.float .f64) ws1) q1 q1l q1c)) (hf2 : ∀ (v0 : Nat) (v1 : Nat) (w : World) (L1 : List It) (r1 : Nat) (K : Value → World → Prop), (∀ e, e ∈ L → e ∈ L1) → f2 (nf v0) (nf v1) = some r1 → Ho w0 w L1 → (∀ (z : Nat) (w1 : World), nf z = r1 → Ho w0 w1 L1 → K (.float .f64 z) w1) → fnM q2 fun g gp gq => CallsX P g (gp.toList ++ (([.float .f64 v0, .float .f64 v1] : List Value) ++ gq.toList)).toArray w K) (hx : T_vector_each (List.map nf ws0) (List.map nf ws1) f2 = some (u0, u1)) {K : Value → World → Prop} (hK : ∀ (a0 : Option Addr) (n0 c0 : Nat) (rws0 : List Nat) (w1 : World), List.map nf rws0 = u0 → Ho w0 w1 ((sl a0 n0 c0 (List.map (Value.float .f64) rws0) N.t_float64) :: L) → K (.tuple #[.slice a0 n0 c0, .int .i64 u1]) w1) : CallsX P N.f_vector_each #[.slice q0 q0l q0c, .slice q1 q1l q1c, q2] w K := by
  refine H.vector_each q0 q0l q0c q1 q1l q1c q2 w _ ?_
  unfold S_vector_each
  unfold T_vector_each at hx
  have h := hx
  clear hx
  try dsimp only
  replace h := bnd h
  obtain ⟨t1, ht1, h⟩ := h
  refine wk_vector_fit H hS hq0 hq1 ht1 ?_; clear hS ht1; rintro w hS
  refine ⟨_, rfl, ?_⟩
  refine cond_s h ?_ ?_ <;> clear h <;> intro hc h
  · replace hS := hS.none (α := Nat) (enc := (Value.float .f64)) (t := N.t_float64)
    have h := some_inj h
    cases h
    exact hK _ _ _ _ _ rfl hS
  · replace h := bnd h
    obtain ⟨t2, ht2, h⟩ := h
    obtain rfl := lenF ht2 (hq0.now (fun _ h => h) hS)
    clear ht2
    replace h := bnd h
    obtain ⟨t3, ht3, h⟩ := h
    obtain ⟨rfl, kt3⟩ := mkF ht3
    clear ht3
    refine mk_s (enc := (Value.float .f64)) hS kt3 rfl ?_; clear hS kt3; intro r1 w hS
    replace h := bnd h
    obtain ⟨t4, ht4, h⟩ := h
    obtain rfl := lenF ht4 ((hq0.mono tl1).now (fun _ h => h) hS)
    clear ht4
    replace h := bnd h
    obtain ⟨o3, h3, c3⟩ := h
    refine cutM_i (fun s w => ∃ (ws2 : List Nat), (List.map nf ws2) = o3 ∧ s = (()) ∧ Ho w0 w ((sl (some ⟨r1, 0, none⟩) ((((q0l : Nat) : Int)).toNat) ((((q0l : Nat) : Int)).toNat) (List.map (Value.float .f64) ws2) N.t_float64) :: L)) (fun J3 hJ3 => ?_) ?_
    · have h := h3
      clear h3
      refine iter_sim (fun s w t => ∃ (t6 : Int) (ws4 : List Nat), (t6, (List.map nf ws4)) = t ∧ s = (t6, ()) ∧ Ho w0 w ((sl (some ⟨r1, 0, none⟩) ((((q0l : Nat) : Int)).toNat) ((((q0l : Nat) : Int)).toNat) (List.map (Value.float .f64) ws4) N.t_float64) :: L)) ?_ h ⟨_, _, rfl, rfl, hS⟩
      clear h hS
      rintro s w t X q ⟨t6, ws4, rfl, rfl, hS⟩ h hX hO
      unfold T_vector_each_b2 at h
      try dsimp only
      refine cond_s h ?_ ?_ <;> clear h <;> intro hc h
      · replace h := bnd h
        obtain ⟨t8, ht8, h⟩ := h
        obtain ⟨z5, rfl, q6x, q6l, q6r⟩ := atF ht8
        clear ht8
        refine idx_s ((hq0.mono tl1).now (fun _ h => h) hS) q6x q6l q6r ?_; intro b7 hb7
        refine ⟨_, rd_get ((hq0.mono tl1).now (fun _ h => h) hS) hb7 q6x, ?_⟩
        replace h := bnd h
        obtain ⟨t9, ht9, h⟩ := h
        obtain ⟨z8, rfl, q9x, q9l, q9r⟩ := atF ht9
        clear ht9
        refine idx_s ((hq1.mono tl1).now (fun _ h => h) hS) q9x q9l q9r ?_; intro b10 hb10
        refine ⟨_, rd_get ((hq1.mono tl1).now (fun _ h => h) hS) hb10 q9x, ?_⟩
        refine drM_s hS ?_; clear hS; intro w hS
        replace h := bnd h
        obtain ⟨t10, ht10, h⟩ := h
        refine hf2 _ _ _ _ _ _ tl1 ht10 hS ?_; clear hS ht10; rintro z11 w rfl hS
        refine ⟨_, rfl, ?_⟩
        replace h := bnd h
        obtain ⟨t11, ht11, h⟩ := h
        obtain ⟨z12, rfl, q13x, q13l, q13r⟩ := atF ht11
        clear ht11
        refine idy_s ((Ent.sl mp0).now (fun _ h => h) hS) q13x q13l q13r ?_
        refine drM_s hS ?_; clear hS; intro w hS
        replace h := bnd h
        obtain ⟨t12, ht12, h⟩ := h
        obtain rfl := setF ht12
        clear ht12
        refine sto_s hS rfl q13r ?_; clear hS; intro w hS
        refine drM_s hS ?_; clear hS; intro w hS
        obtain rfl := some_inj h
        exact hX _ rfl _ _ ⟨_, _, rfl, rfl, hS⟩
      · obtain rfl := some_inj h
        have h := congrArg some (hO _ rfl)
        obtain rfl := some_inj h
        exact hJ3 _ _ ⟨_, rfl, rfl, hS⟩
    · clear h3 hS
      rintro s w ⟨ws2, rfl, rfl, hS⟩
      have h := c3
      clear c3
      try dsimp only
      have h := some_inj h
      cases h
      exact hK _ _ _ _ _ rfl hS

theorem wk_vector_Axpy {N : Nums} {P : Program} (H : AllOk N P) {w0 w : World} {L : List It} {q0 : Nat} {q1 : Option Addr} {q1l q1c : Nat} {ws1 : List Nat} {q2 : Option Addr} {q2l q2c : Nat} {ws2 : List Nat} {u0 : List Nat} {u1 : Int} (hS : Ho w0 w (L)) (hq1 : Ent L (rdA (List.map (Value.float .f64) ws1) q1 q1l q1c)) (hq2 : Ent L (rdA (List.map (Value.float .f64) ws2) q2 q2l q2c)) (hx : T_vector_Axpy (nf q0) (List.map nf ws1) (List.map nf ws2) = some (u0, u1)) {K : Value → World → Prop} (hK : ∀ (a0 : Option Addr) (n0 c0 : Nat) (rws0 : List Nat) (w1 : World), List.map nf rws0 = u0 → Ho w0 w1 ((sl a0 n0 c0 (List.map (Value.float .f64) rws0) N.t_float64) :: L) → K (.tuple #[.slice a0 n0 c0, .int .i64 u1]) w1) : CallsX P N.f_vector_Axpy #[.float .f64 q0, .slice q1 q1l q1c, .slice q2 q2l q2c] w K := by
  refine H.vector_Axpy q0 q1 q1l q1c q2 q2l q2c w _ ?_
  unfold S_vector_Axpy
  unfold T_vector_Axpy at hx
  have h := hx
  clear hx
  try dsimp only
  refine newM_s hS ?_; clear hS; intro r1 w hS
  replace h := bnd h
  obtain ⟨⟨t1, t2⟩, ho1, h⟩ := h
  refine wk_vector_each H hS (hq1.mono tl1) (hq2.mono tl1) (by intro v0 v1 w L1 r1 K hL hx hS hK; exact wk_vector_Axpy_1 H hS ((Ent.of mp0).mono hL) hx hK) ho1 ?_; clear hS ho1; rintro a2 m2 c2 ws2 w rfl hS
  refine ⟨_, _, _, _, rfl, ?_⟩
  have h := some_inj h
  cases h
  exact hK _ _ _ _ _ rfl (hS.pick (A := [_, _]) [0] rfl)

theorem wk_vector_Dot {N : Nums} {P : Program} (H : AllOk N P) {w0 w : World} {L : List It} {q0 : Option Addr} {q0l q0c : Nat} {ws0 : List Nat} {q1 : Option Addr} {q1l q1c : Nat} {ws1 : List Nat} {u0 : Nat} {u1 : Int} (hS : Ho w0 w (L)) (hq0 : Ent L (rdA (List.map (Value.float .f64) ws0) q0 q0l q0c)) (hq1 : Ent L (rdA (List.map (Value.float .f64) ws1) q1 q1l q1c)) (hx : T_vector_Dot (List.map nf ws0) (List.map nf ws1) = some (u0, u1)) {K : Value → World → Prop} (hK : ∀ (z0 : Nat) (w1 : World), nf z0 = u0 → Ho w0 w1 (L) → K (.tuple #[.float .f64 z0, .int .i64 u1]) w1) : CallsX P N.f_vector_Dot #[.slice q0 q0l q0c, .slice q1 q1l q1c] w K := by
  refine H.vector_Dot q0 q0l q0c q1 q1l q1c w _ ?_
  unfold S_vector_Dot
  unfold T_vector_Dot at hx
  have h := hx
  clear hx
  try dsimp only
  replace h := bnd h
  obtain ⟨t1, ht1, h⟩ := h
  refine wk_vector_fit H hS hq0 hq1 ht1 ?_; clear hS ht1; rintro w hS
  refine ⟨_, rfl, ?_⟩
  refine cond_s h ?_ ?_ <;> clear h <;> intro hc h
  · have h := some_inj h
    cases h
    exact hK _ _ rfl hS
  · replace h := bnd h
    obtain ⟨t2, ht2, h⟩ := h
    obtain rfl := lenF ht2 (hq0.now (fun _ h => h) hS)
    clear ht2
    replace h := bnd h
    obtain ⟨o2, h2, c2⟩ := h
    refine cutM_i (fun s w => ∃ (z1 : Nat), (nf z1) = o2 ∧ s = (z1, ()) ∧ Ho w0 w (L)) (fun J2 hJ2 => ?_) ?_
    · have h := h2
      clear h2
      refine iter_sim (fun s w t => ∃ (z3 : Nat) (t5 : Int), ((nf z3), t5) = t ∧ s = (z3, t5, ()) ∧ Ho w0 w (L)) ?_ h ⟨_, _, rfl, rfl, hS⟩
      clear h hS
      rintro s w t X q ⟨z3, t5, rfl, rfl, hS⟩ h hX hO
      unfold T_vector_Dot_b2 at h
      try dsimp only
      refine cond_s h ?_ ?_ <;> clear h <;> intro hc h
      · replace h := bnd h
        obtain ⟨t6, ht6, h⟩ := h
        obtain ⟨z4, rfl, q5x, q5l, q5r⟩ := atF ht6
        clear ht6
        refine idx_s (hq0.now (fun _ h => h) hS) q5x q5l q5r ?_; intro b6 hb6
        refine ⟨_, rd_get (hq0.now (fun _ h => h) hS) hb6 q5x, ?_⟩
        replace h := bnd h
        obtain ⟨t7, ht7, h⟩ := h
        obtain ⟨z7, rfl, q8x, q8l, q8r⟩ := atF ht7
        clear ht7
        refine idx_s (hq1.now (fun _ h => h) hS) q8x q8l q8r ?_; intro b9 hb9
        refine ⟨_, rd_get (hq1.now (fun _ h => h) hS) hb9 q8x, ?_⟩
        replace h := bnd h
        obtain ⟨t8, ht8, h⟩ := h
        refine fmul_s ht8 hS ?_; clear ht8; rintro z10 _ rfl _
        replace h := bnd h
        obtain ⟨t9, ht9, h⟩ := h
        refine fadd_s ht9 hS ?_; clear ht9; rintro z11 _ rfl _
        refine drM_s hS ?_; clear hS; intro w hS
        obtain rfl := some_inj h
        exact hX _ rfl _ _ ⟨_, _, rfl, rfl, hS⟩
      · obtain rfl := some_inj h
        have h := congrArg some (hO _ rfl)
        obtain rfl := some_inj h
        exact hJ2 _ _ ⟨_, rfl, rfl, hS⟩
    · clear h2 hS
      rintro s w ⟨z1, rfl, rfl, hS⟩
      have h := c2
      clear c2
      try dsimp only
      have h := some_inj h
      cases h
      exact hK _ _ rfl hS

theorem wk_girderkit_SameReals {N : Nums} {P : Program} (H : AllOk N P) {w0 w : World} {L : List It} {q0 : Option Addr} {q0l q0c : Nat} {ws0 : List Nat} {q1 : Option Addr} {q1l q1c : Nat} {ws1 : List Nat} {u0 : Bool} (hS : Ho w0 w (L)) (hq0 : Ent L (rdA (List.map (Value.float .f64) ws0) q0 q0l q0c)) (hq1 : Ent L (rdA (List.map (Value.float .f64) ws1) q1 q1l q1c)) (hx : T_girderkit_SameReals (List.map nf ws0) (List.map nf ws1) = some u0) {K : Value → World → Prop} (hK : ∀  (w1 : World), Ho w0 w1 (L) → K (.bool u0) w1) : CallsX P N.f_girderkit_SameReals #[.slice q0 q0l q0c, .slice q1 q1l q1c] w K := by
  refine H.girderkit_SameReals q0 q0l q0c q1 q1l q1c w _ ?_
  unfold S_girderkit_SameReals
  unfold T_girderkit_SameReals at hx
  have h := hx
  clear hx
  try dsimp only
  replace h := bnd h
  obtain ⟨t1, ht1, h⟩ := h
  obtain rfl := lenF ht1 (hq0.now (fun _ h => h) hS)
  clear ht1
  replace h := bnd h
  obtain ⟨t2, ht2, h⟩ := h
  obtain rfl := lenF ht2 (hq1.now (fun _ h => h) hS)
  clear ht2
  refine cond_s h ?_ ?_ <;> clear h <;> intro hc h
  · have h := some_inj h
    cases h
    exact hK _ hS
  · replace h := bnd h
    obtain ⟨o1, h1, c1⟩ := h
    refine cutM_i (fun s w =>  .inl () = o1 ∧ s = (()) ∧ Ho w0 w (L)) (fun J1 hJ1 => ?_) ?_
    · have h := h1
      clear h1
      refine iter_sim (fun s w t => ∃ (t3 : Int), t3 = t ∧ s = (t3, ()) ∧ Ho w0 w (L)) ?_ h ⟨_, rfl, rfl, hS⟩
      clear h hS
      rintro s w t X q ⟨t3, rfl, rfl, hS⟩ h hX hO
      unfold T_girderkit_SameReals_b2 at h
      try dsimp only
      replace h := bnd h
      obtain ⟨t4, ht4, h⟩ := h
      obtain rfl := lenF ht4 (hq0.now (fun _ h => h) hS)
      clear ht4
      refine cond_s h ?_ ?_ <;> clear h <;> intro hc h
      · replace h := bnd h
        obtain ⟨t5, ht5, h⟩ := h
        obtain ⟨z2, rfl, q3x, q3l, q3r⟩ := atF ht5
        clear ht5
        refine idx_s (hq0.now (fun _ h => h) hS) q3x q3l q3r ?_; intro b4 hb4
        refine ⟨_, rd_get (hq0.now (fun _ h => h) hS) hb4 q3x, ?_⟩
        replace h := bnd h
        obtain ⟨t6, ht6, h⟩ := h
        obtain ⟨z5, rfl, q6x, q6l, q6r⟩ := atF ht6
        clear ht6
        refine idx_s (hq1.now (fun _ h => h) hS) q6x q6l q6r ?_; intro b7 hb7
        refine ⟨_, rd_get (hq1.now (fun _ h => h) hS) hb7 q6x, ?_⟩
        refine drM_s hS ?_; clear hS; intro w hS
        replace h := bnd h
        obtain ⟨t7, ht7, h⟩ := h
        refine wk_girderkit_SameFloat H hS  ht7 ?_; clear hS ht7; rintro w hS
        refine ⟨_, rfl, ?_⟩
        refine drM_s hS ?_; clear hS; intro w hS
        refine cond_s h ?_ ?_ <;> clear h <;> intro hc h
        · obtain rfl := some_inj h
          have h := congrArg some (hO _ rfl)
          obtain rfl := some_inj h
          have h := c1
          have h := some_inj h
          cases h
          exact hK _ hS
        · obtain rfl := some_inj h
          exact hX _ rfl _ _ ⟨_, rfl, rfl, hS⟩
      · obtain rfl := some_inj h
        have h := congrArg some (hO _ rfl)
        obtain rfl := some_inj h
        exact hJ1 _ _ ⟨rfl, rfl, hS⟩
    · clear h1 hS
      rintro s w ⟨rfl, rfl, hS⟩
      have h := c1
      clear c1
      try dsimp only
      have h := some_inj h
      cases h
      exact hK _ hS

theorem wk_girderlaw09_awake {N : Nums} {P : Program} (H : AllOk N P) {w0 w : World} {L : List It}  {u0 : Bool} (hS : Ho w0 w (L))  (hx : T_girderlaw09_awake  = some u0) {K : Value → World → Prop} (hK : ∀  (w1 : World), Ho w0 w1 (L) → K (.bool u0) w1) : CallsX P N.f_girderlaw09_awake #[] w K := by
  refine H.girderlaw09_awake  w _ ?_
  unfold S_girderlaw09_awake
  unfold T_girderlaw09_awake at hx
  have h := hx
  clear hx
  try dsimp only
  replace h := bnd h
  obtain ⟨t1, ht1, h⟩ := h
  obtain rfl : (List.map nf ([4607182418800017408, 4611686018427387904] : List Nat)) = t1 := some_inj ht1
  clear ht1
  refine lit_s (ks := [4607182418800017408, 4611686018427387904]) (enc := (Value.float .f64)) (m := 2) hS rfl rfl ?_; clear hS; intro r1 w hS
  replace h := bnd h
  obtain ⟨t2, ht2, h⟩ := h
  obtain rfl : (List.map nf ([4613937818241073152, 4616189618054758400] : List Nat)) = t2 := some_inj ht2
  clear ht2
  refine lit_s (ks := [4613937818241073152, 4616189618054758400]) (enc := (Value.float .f64)) (m := 2) hS rfl rfl ?_; clear hS; intro r2 w hS
  replace h := bnd h
  obtain ⟨⟨t3, t4⟩, ho3, h⟩ := h
  refine wk_vector_Axpy H hS (Ent.sl mp1) (Ent.sl mp0) ho3 ?_; clear hS ho3; rintro a3 m3 c3 ws3 w rfl hS
  refine ⟨_, _, _, _, rfl, ?_⟩
  replace h := bnd h
  obtain ⟨⟨t5, t6⟩, ho5, h⟩ := h
  refine wk_vector_Dot H hS (Ent.sl mp2) (Ent.sl mp1) ho5 ?_; clear hS ho5; rintro z4 w rfl hS
  refine ⟨_, _, rfl, ?_⟩
  replace h := bnd h
  obtain ⟨t7, ht7, h⟩ := h
  obtain rfl : (List.map nf ([4613937818241073152, 13839561654909534208, 4616189618054758400] : List Nat)) = t7 := some_inj ht7
  clear ht7
  refine lit_s (ks := [4613937818241073152, 13839561654909534208, 4616189618054758400]) (enc := (Value.float .f64)) (m := 3) hS rfl rfl ?_; clear hS; intro r5 w hS
  replace h := bnd h
  obtain ⟨⟨t8, t9⟩, ho8, h⟩ := h
  refine wk_vector_Most H hS (Ent.sl mp0) ho8 ?_; clear hS ho8; rintro z6 w rfl hS
  refine ⟨_, _, rfl, ?_⟩
  refine cond_s h ?_ ?_ <;> clear h <;> intro hc h
  · refine cond_s h ?_ ?_ <;> clear h <;> intro hc h
    · replace h := bnd h
      obtain ⟨t10, ht10, h⟩ := h
      obtain rfl : (List.map nf ([4617315517961601024, 4620693217682128896] : List Nat)) = t10 := some_inj ht10
      clear ht10
      refine lit_s (ks := [4617315517961601024, 4620693217682128896]) (enc := (Value.float .f64)) (m := 2) hS rfl rfl ?_; clear hS; intro r7 w hS
      replace h := bnd h
      obtain ⟨t11, ht11, h⟩ := h
      refine wk_girderkit_SameReals H hS (Ent.sl mp2) (Ent.sl mp0) ht11 ?_; clear hS ht11; rintro w hS
      refine ⟨_, rfl, ?_⟩
      refine cond_s h ?_ ?_ <;> clear h <;> intro hc h
      · replace h := bnd h
        obtain ⟨t12, ht12, h⟩ := h
        obtain rfl := feq_s ht12
        clear ht12
        refine cond_s h ?_ ?_ <;> clear h <;> intro hc h
        · refine cond_s h ?_ ?_ <;> clear h <;> intro hc h
          · replace h := bnd h
            obtain ⟨t13, ht13, h⟩ := h
            obtain rfl := feq_s ht13
            clear ht13
            refine cond_s h ?_ ?_ <;> clear h <;> intro hc h
            · replace h := bnd h
              obtain ⟨t14, ht14, h⟩ := h
              obtain rfl : (List.map nf ([4613937818241073152, 13839561654909534208] : List Nat)) = t14 := some_inj ht14
              clear ht14
              refine lit_s (ks := [4613937818241073152, 13839561654909534208]) (enc := (Value.float .f64)) (m := 2) hS rfl rfl ?_; clear hS; intro r8 w hS
              replace h := bnd h
              obtain ⟨t15, ht15, h⟩ := h
              refine wk_vector_Norm H hS (Ent.sl mp0) ht15 ?_; clear hS ht15; rintro z9 w rfl hS
              refine ⟨_, rfl, ?_⟩
              replace h := bnd h
              obtain ⟨t16, ht16, h⟩ := h
              obtain rfl := feq_s ht16
              clear ht16
              refine cond_s h ?_ ?_ <;> clear h <;> intro hc h
              · replace h := bnd h
                obtain ⟨t17, ht17, h⟩ := h
                obtain rfl : (List.map nf ([0] : List Nat)) = t17 := some_inj ht17
                clear ht17
                refine lit_s (ks := [0]) (enc := (Value.float .f64)) (m := 1) hS rfl rfl ?_; clear hS; intro r10 w hS
                replace h := bnd h
                obtain ⟨t18, ht18, h⟩ := h
                refine wk_math_Copysign H hS  ht18 ?_; clear hS ht18; rintro z11 w rfl hS
                refine ⟨_, rfl, ?_⟩
                replace h := bnd h
                obtain ⟨t19, ht19, h⟩ := h
                obtain rfl : (List.map nf ([z11] : List Nat)) = t19 := some_inj ht19
                clear ht19
                refine lit_s (ks := [z11]) (enc := (Value.float .f64)) (m := 1) hS rfl rfl ?_; clear hS; intro r12 w hS
                replace h := bnd h
                obtain ⟨t20, ht20, h⟩ := h
                refine wk_vector_Same H hS (Ent.sl mp1) (Ent.sl mp0) ht20 ?_; clear hS ht20; rintro w hS
                refine ⟨_, rfl, ?_⟩
                have h := some_inj h
                cases h
                exact hK _ (hS.pick (A := [_, _, _, _, _, _, _, _]) [] rfl)
              · have h := some_inj h
                cases h
                exact hK _ (hS.pick (A := [_, _, _, _, _, _]) [] rfl)
            · have h := some_inj h
              cases h
              exact hK _ (hS.pick (A := [_, _, _, _, _]) [] rfl)
          · have h := some_inj h
            cases h
            exact hK _ (hS.pick (A := [_, _, _, _, _]) [] rfl)
        · have h := some_inj h
          cases h
          exact hK _ (hS.pick (A := [_, _, _, _, _]) [] rfl)
      · have h := some_inj h
        cases h
        exact hK _ (hS.pick (A := [_, _, _, _, _]) [] rfl)
    · have h := some_inj h
      cases h
      exact hK _ (hS.pick (A := [_, _, _, _]) [] rfl)
  · have h := some_inj h
    cases h
    exact hK _ (hS.pick (A := [_, _, _, _]) [] rfl)

theorem wk_girderlaw09_VectorTells {N : Nums} {P : Program} (H : AllOk N P) {w0 w : World} {L : List It} {q0 : Option Addr} {q0l q0c : Nat} {ws0 : List Nat} {q1 : Option Addr} {q1l q1c : Nat} {ws1 : List Nat} {u0 : Bool} (hS : Ho w0 w (L)) (hq0 : Ent L (rdA (List.map (Value.float .f64) ws0) q0 q0l q0c)) (hq1 : Ent L (rdA (List.map (Value.float .f64) ws1) q1 q1l q1c)) (hx : T_girderlaw09_VectorTells (List.map nf ws0) (List.map nf ws1) = some u0) {K : Value → World → Prop} (hK : ∀  (w1 : World), Ho w0 w1 (L) → K (.bool u0) w1) : CallsX P N.f_girderlaw09_VectorTells #[.slice q0 q0l q0c, .slice q1 q1l q1c] w K := by
  refine H.girderlaw09_VectorTells q0 q0l q0c q1 q1l q1c w _ ?_
  unfold S_girderlaw09_VectorTells
  unfold T_girderlaw09_VectorTells at hx
  have h := hx
  clear hx
  try dsimp only
  replace h := bnd h
  obtain ⟨⟨t1, t2⟩, ho1, h⟩ := h
  refine wk_vector_Most H hS hq0 ho1 ?_; clear hS ho1; rintro z1 w rfl hS
  refine ⟨_, _, rfl, ?_⟩
  replace h := bnd h
  obtain ⟨⟨t3, t4⟩, ho3, h⟩ := h
  refine wk_girderref09_Most H hS hq0 ho3 ?_; clear hS ho3; rintro z2 w rfl hS
  refine ⟨_, _, rfl, ?_⟩
  replace h := bnd h
  obtain ⟨t5, ht5, h⟩ := h
  refine wk_vector_Same H hS hq0 hq1 ht5 ?_; clear hS ht5; rintro w hS
  refine ⟨_, rfl, ?_⟩
  replace h := bnd h
  obtain ⟨t6, ht6, h⟩ := h
  refine wk_girderref09_Same H hS hq0 hq1 ht6 ?_; clear hS ht6; rintro w hS
  refine ⟨_, rfl, ?_⟩
  refine cond_s h ?_ ?_ <;> clear h <;> intro hc h
  · replace h := bnd h
    obtain ⟨t7, ht7, h⟩ := h
    refine wk_vector_Same H hS hq1 hq0 ht7 ?_; clear hS ht7; rintro w hS
    refine ⟨_, rfl, ?_⟩
    replace h := bnd h
    obtain ⟨t8, ht8, h⟩ := h
    refine wk_girderref09_Same H hS hq0 hq1 ht8 ?_; clear hS ht8; rintro w hS
    refine ⟨_, rfl, ?_⟩
    refine cond_s h ?_ ?_ <;> clear h <;> intro hc h
    · replace h := bnd h
      obtain ⟨t9, ht9, h⟩ := h
      refine wk_vector_Same H hS hq0 hq0 ht9 ?_; clear hS ht9; rintro w hS
      refine ⟨_, rfl, ?_⟩
      refine cond_s h ?_ ?_ <;> clear h <;> intro hc h
      · replace h := bnd h
        obtain ⟨t10, ht10, h⟩ := h
        refine wk_vector_Norm H hS hq0 ht10 ?_; clear hS ht10; rintro z3 w rfl hS
        refine ⟨_, rfl, ?_⟩
        replace h := bnd h
        obtain ⟨t11, ht11, h⟩ := h
        refine wk_girderref09_Norm H hS hq0 ht11 ?_; clear hS ht11; rintro z4 w rfl hS
        refine ⟨_, rfl, ?_⟩
        replace h := bnd h
        obtain ⟨t12, ht12, h⟩ := h
        refine wk_girderkit_SameFloat H hS  ht12 ?_; clear hS ht12; rintro w hS
        refine ⟨_, rfl, ?_⟩
        refine cond_s h ?_ ?_ <;> clear h <;> intro hc h
        · refine cond_s h ?_ ?_ <;> clear h <;> intro hc h
          · replace h := bnd h
            obtain ⟨t13, ht13, h⟩ := h
            refine wk_girderkit_SameFloat H hS  ht13 ?_; clear hS ht13; rintro w hS
            refine ⟨_, rfl, ?_⟩
            refine cond_s h ?_ ?_ <;> clear h <;> intro hc h
            · replace h := bnd h
              obtain ⟨t14, ht14, h⟩ := h
              refine wk_girderlaw09_awake H hS  ht14 ?_; clear hS ht14; rintro w hS
              refine ⟨_, rfl, ?_⟩
              have h := some_inj h
              cases h
              exact hK _ hS
            · have h := some_inj h
              cases h
              exact hK _ hS
          · have h := some_inj h
            cases h
            exact hK _ hS
        · have h := some_inj h
          cases h
          exact hK _ hS
      · have h := some_inj h
        cases h
        exact hK _ hS
    · have h := some_inj h
      cases h
      exact hK _ hS
  · have h := some_inj h
    cases h
    exact hK _ hS

theorem wk_vector_Add_1 {N : Nums} {P : Program} (H : AllOk N P) {w0 w : World} {L : List It} {q0 : Nat} {q1 : Nat} {u0 : Nat} (hS : Ho w0 w (L))  (hx : T_vector_Add_1 (nf q0) (nf q1) = some u0) {K : Value → World → Prop} (hK : ∀ (z0 : Nat) (w1 : World), nf z0 = u0 → Ho w0 w1 (L) → K (.float .f64 z0) w1) : CallsX P N.f_vector_Add_1 #[.float .f64 q0, .float .f64 q1] w K := by
  refine H.vector_Add_1 q0 q1 w _ ?_
  unfold S_vector_Add_1
  unfold T_vector_Add_1 at hx
  have h := hx
  clear hx
  try dsimp only
  replace h := bnd h
  obtain ⟨t1, ht1, h⟩ := h
  refine fadd_s ht1 hS ?_; clear hS ht1; rintro z1 w rfl hS
  have h := some_inj h
  cases h
  exact hK _ _ rfl hS

theorem wk_vector_Add {N : Nums} {P : Program} (H : AllOk N P) {w0 w : World} {L : List It} {q0 : Option Addr} {q0l q0c : Nat} {ws0 : List Nat} {q1 : Option Addr} {q1l q1c : Nat} {ws1 : List Nat} {u0 : List Nat} {u1 : Int} (hS : Ho w0 w (L)) (hq0 : Ent L (rdA (List.map (Value.float .f64) ws0) q0 q0l q0c)) (hq1 : Ent L (rdA (List.map (Value.float .f64) ws1) q1 q1l q1c)) (hx : T_vector_Add (List.map nf ws0) (List.map nf ws1) = some (u0, u1)) {K : Value → World → Prop} (hK : ∀ (a0 : Option Addr) (n0 c0 : Nat) (rws0 : List Nat) (w1 : World), List.map nf rws0 = u0 → Ho w0 w1 ((sl a0 n0 c0 (List.map (Value.float .f64) rws0) N.t_float64) :: L) → K (.tuple #[.slice a0 n0 c0, .int .i64 u1]) w1) : CallsX P N.f_vector_Add #[.slice q0 q0l q0c, .slice q1 q1l q1c] w K := by
  refine H.vector_Add q0 q0l q0c q1 q1l q1c w _ ?_
  unfold S_vector_Add
  unfold T_vector_Add at hx
  have h := hx
  clear hx
  try dsimp only
  replace h := bnd h
  obtain ⟨⟨t1, t2⟩, ho1, h⟩ := h
  refine wk_vector_each H hS hq0 hq1 (by intro v0 v1 w L1 r1 K hL hx hS hK; exact wk_vector_Add_1 H hS  hx hK) ho1 ?_; clear hS ho1; rintro a1 m1 c1 ws1 w rfl hS
  refine ⟨_, _, _, _, rfl, ?_⟩
  have h := some_inj h
  cases h
  exact hK _ _ _ _ _ rfl hS

theorem wk_girderref09_Fit {N : Nums} {P : Program} (H : AllOk N P) {w0 w : World} {L : List It} {q0 : Option Addr} {q0l q0c : Nat} {ws0 : List Nat} {q1 : Option Addr} {q1l q1c : Nat} {ws1 : List Nat} {u0 : Int} (hS : Ho w0 w (L)) (hq0 : Ent L (rdA (List.map (Value.float .f64) ws0) q0 q0l q0c)) (hq1 : Ent L (rdA (List.map (Value.float .f64) ws1) q1 q1l q1c)) (hx : T_girderref09_Fit (List.map nf ws0) (List.map nf ws1) = some u0) {K : Value → World → Prop} (hK : ∀  (w1 : World), Ho w0 w1 (L) → K (.int .i64 u0) w1) : CallsX P N.f_girderref09_Fit #[.slice q0 q0l q0c, .slice q1 q1l q1c] w K := by
  refine H.girderref09_Fit q0 q0l q0c q1 q1l q1c w _ ?_
  unfold S_girderref09_Fit
  unfold T_girderref09_Fit at hx
  have h := hx
  clear hx
  try dsimp only
  replace h := bnd h
  obtain ⟨t1, ht1, h⟩ := h
  obtain rfl := lenF ht1 (hq0.now (fun _ h => h) hS)
  clear ht1
  replace h := bnd h
  obtain ⟨t2, ht2, h⟩ := h
  obtain rfl := lenF ht2 (hq1.now (fun _ h => h) hS)
  clear ht2
  refine cond_s h ?_ ?_ <;> clear h <;> intro hc h
  · have h := some_inj h
    cases h
    exact hK _ hS
  · replace h := bnd h
    obtain ⟨t3, ht3, h⟩ := h
    obtain rfl := lenF ht3 (hq0.now (fun _ h => h) hS)
    clear ht3
    refine cond_s h ?_ ?_ <;> clear h <;> intro hc h
    · have h := some_inj h
      cases h
      exact hK _ hS
    · have h := some_inj h
      cases h
      exact hK _ hS

theorem wk_girderref09_Axpy {N : Nums} {P : Program} (H : AllOk N P) {w0 w : World} {L : List It} {q0 : Nat} {q1 : Option Addr} {q1l q1c : Nat} {ws1 : List Nat} {q2 : Option Addr} {q2l q2c : Nat} {ws2 : List Nat} {u0 : List Nat} {u1 : Int} (hS : Ho w0 w (L)) (hq1 : Ent L (rdA (List.map (Value.float .f64) ws1) q1 q1l q1c)) (hq2 : Ent L (rdA (List.map (Value.float .f64) ws2) q2 q2l q2c)) (hx : T_girderref09_Axpy (nf q0) (List.map nf ws1) (List.map nf ws2) = some (u0, u1)) {K : Value → World → Prop} (hK : ∀ (a0 : Option Addr) (n0 c0 : Nat) (rws0 : List Nat) (w1 : World), List.map nf rws0 = u0 → Ho w0 w1 ((sl a0 n0 c0 (List.map (Value.float .f64) rws0) N.t_float64) :: L) → K (.tuple #[.slice a0 n0 c0, .int .i64 u1]) w1) : CallsX P N.f_girderref09_Axpy #[.float .f64 q0, .slice q1 q1l q1c, .slice q2 q2l q2c] w K := by
  refine H.girderref09_Axpy q0 q1 q1l q1c q2 q2l q2c w _ ?_
  unfold S_girderref09_Axpy
  unfold T_girderref09_Axpy at hx
  have h := hx
  clear hx
  try dsimp only
  replace h := bnd h
  obtain ⟨t1, ht1, h⟩ := h
  refine wk_girderref09_Fit H hS hq1 hq2 ht1 ?_; clear hS ht1; rintro w hS
  refine ⟨_, rfl, ?_⟩
  refine cond_s h ?_ ?_ <;> clear h <;> intro hc h
  · replace hS := hS.none (α := Nat) (enc := (Value.float .f64)) (t := N.t_float64)
    have h := some_inj h
    cases h
    exact hK _ _ _ _ _ rfl hS
  · replace h := bnd h
    obtain ⟨o5, h5, c5⟩ := h
    refine cutM_i (fun s w => ∃ (a1 : Option Addr) (m2 : Nat) (c3 : Nat) (ws4 : List Nat), (List.map nf ws4) = o5 ∧ s = ((a1, m2, c3), ()) ∧ Ho w0 w ((sl a1 m2 c3 (List.map (Value.float .f64) ws4) N.t_float64) :: L)) (fun J5 hJ5 => ?_) ?_
    · have h := h5
      clear h5
      replace hS := hS.none (α := Nat) (enc := (Value.float .f64)) (t := N.t_float64)
      refine iter_sim (fun s w t => ∃ (t3 : Int) (a6 : Option Addr) (m7 : Nat) (c8 : Nat) (ws9 : List Nat), (t3, (List.map nf ws9)) = t ∧ s = ((a6, m7, c8), t3, ()) ∧ Ho w0 w ((sl a6 m7 c8 (List.map (Value.float .f64) ws9) N.t_float64) :: L)) ?_ h ⟨_, _, _, _, _, rfl, rfl, hS⟩
      clear h hS
      rintro s w t X q ⟨t3, a6, m7, c8, ws9, rfl, rfl, hS⟩ h hX hO
      unfold T_girderref09_Axpy_b2 at h
      try dsimp only
      replace h := bnd h
      obtain ⟨t5, ht5, h⟩ := h
      obtain rfl := lenF ht5 ((hq1.mono tl1).now (fun _ h => h) hS)
      clear ht5
      refine cond_s h ?_ ?_ <;> clear h <;> intro hc h
      · replace h := bnd h
        obtain ⟨t6, ht6, h⟩ := h
        obtain ⟨z10, rfl, q11x, q11l, q11r⟩ := atF ht6
        clear ht6
        refine idx_s ((hq1.mono tl1).now (fun _ h => h) hS) q11x q11l q11r ?_; intro b12 hb12
        refine ⟨_, rd_get ((hq1.mono tl1).now (fun _ h => h) hS) hb12 q11x, ?_⟩
        replace h := bnd h
        obtain ⟨t7, ht7, h⟩ := h
        refine fmul_s ht7 hS ?_; clear hS ht7; rintro z13 w rfl hS
        replace h := bnd h
        obtain ⟨t8, ht8, h⟩ := h
        obtain ⟨z14, rfl, q15x, q15l, q15r⟩ := atF ht8
        clear ht8
        refine idx_s ((hq2.mono tl1).now (fun _ h => h) hS) q15x q15l q15r ?_; intro b16 hb16
        refine ⟨_, rd_get ((hq2.mono tl1).now (fun _ h => h) hS) hb16 q15x, ?_⟩
        replace h := bnd h
        obtain ⟨t9, ht9, h⟩ := h
        refine fadd_s ht9 hS ?_; clear hS ht9; rintro z17 w rfl hS
        replace h := bnd h
        obtain ⟨t10, ht10, h⟩ := h
        obtain rfl : (List.map nf ([z17] : List Nat)) = t10 := some_inj ht10
        clear ht10
        refine lit_s (ks := [z17]) (enc := (Value.float .f64)) (m := 1) hS rfl rfl ?_; clear hS; intro r18 w hS
        replace h := bnd h
        obtain ⟨t11, ht11, h⟩ := h
        obtain ⟨rfl, kt11⟩ := appF ht11
        clear ht11
        replace hS := ro1 hS
        refine app_s hS kt11 ((Ent.sl mp1).now (fun _ h => h) hS) (fun _ => rfl) rfl ?_; clear hS kt11; intro a19 c19 w hS
        obtain rfl := some_inj h
        exact hX _ rfl _ _ ⟨_, _, _, _, _, rfl, rfl, (hS.pick (A := [_, _]) [0] rfl)⟩
      · obtain rfl := some_inj h
        have h := congrArg some (hO _ rfl)
        obtain rfl := some_inj h
        exact hJ5 _ _ ⟨_, _, _, _, rfl, rfl, hS⟩
    · clear h5 hS
      rintro s w ⟨a1, m2, c3, ws4, rfl, rfl, hS⟩
      have h := c5
      clear c5
      try dsimp only
      have h := some_inj h
      cases h
      exact hK _ _ _ _ _ rfl hS

theorem wk_girderref09_Add {N : Nums} {P : Program} (H : AllOk N P) {w0 w : World} {L : List It} {q0 : Option Addr} {q0l q0c : Nat} {ws0 : List Nat} {q1 : Option Addr} {q1l q1c : Nat} {ws1 : List Nat} {u0 : List Nat} {u1 : Int} (hS : Ho w0 w (L)) (hq0 : Ent L (rdA (List.map (Value.float .f64) ws0) q0 q0l q0c)) (hq1 : Ent L (rdA (List.map (Value.float .f64) ws1) q1 q1l q1c)) (hx : T_girderref09_Add (List.map nf ws0) (List.map nf ws1) = some (u0, u1)) {K : Value → World → Prop} (hK : ∀ (a0 : Option Addr) (n0 c0 : Nat) (rws0 : List Nat) (w1 : World), List.map nf rws0 = u0 → Ho w0 w1 ((sl a0 n0 c0 (List.map (Value.float .f64) rws0) N.t_float64) :: L) → K (.tuple #[.slice a0 n0 c0, .int .i64 u1]) w1) : CallsX P N.f_girderref09_Add #[.slice q0 q0l q0c, .slice q1 q1l q1c] w K := by
  refine H.girderref09_Add q0 q0l q0c q1 q1l q1c w _ ?_
  unfold S_girderref09_Add
  unfold T_girderref09_Add at hx
  have h := hx
  clear hx
  try dsimp only
  replace h := bnd h
  obtain ⟨⟨t1, t2⟩, ho1, h⟩ := h
  refine wk_girderref09_Axpy H hS hq0 hq1 ho1 ?_; clear hS ho1; rintro a1 m1 c1 ws1 w rfl hS
  refine ⟨_, _, _, _, rfl, ?_⟩
  have h := some_inj h
  cases h
  exact hK _ _ _ _ _ rfl hS

theorem wk_vector_Sub_1 {N : Nums} {P : Program} (H : AllOk N P) {w0 w : World} {L : List It} {q0 : Nat} {q1 : Nat} {u0 : Nat} (hS : Ho w0 w (L))  (hx : T_vector_Sub_1 (nf q0) (nf q1) = some u0) {K : Value → World → Prop} (hK : ∀ (z0 : Nat) (w1 : World), nf z0 = u0 → Ho w0 w1 (L) → K (.float .f64 z0) w1) : CallsX P N.f_vector_Sub_1 #[.float .f64 q0, .float .f64 q1] w K := by
  refine H.vector_Sub_1 q0 q1 w _ ?_
  unfold S_vector_Sub_1
  unfold T_vector_Sub_1 at hx
  have h := hx
  clear hx
  try dsimp only
  replace h := bnd h
  obtain ⟨t1, ht1, h⟩ := h
  refine fsub_s ht1 hS ?_; clear hS ht1; rintro z1 w rfl hS
  have h := some_inj h
  cases h
  exact hK _ _ rfl hS

theorem wk_vector_Sub {N : Nums} {P : Program} (H : AllOk N P) {w0 w : World} {L : List It} {q0 : Option Addr} {q0l q0c : Nat} {ws0 : List Nat} {q1 : Option Addr} {q1l q1c : Nat} {ws1 : List Nat} {u0 : List Nat} {u1 : Int} (hS : Ho w0 w (L)) (hq0 : Ent L (rdA (List.map (Value.float .f64) ws0) q0 q0l q0c)) (hq1 : Ent L (rdA (List.map (Value.float .f64) ws1) q1 q1l q1c)) (hx : T_vector_Sub (List.map nf ws0) (List.map nf ws1) = some (u0, u1)) {K : Value → World → Prop} (hK : ∀ (a0 : Option Addr) (n0 c0 : Nat) (rws0 : List Nat) (w1 : World), List.map nf rws0 = u0 → Ho w0 w1 ((sl a0 n0 c0 (List.map (Value.float .f64) rws0) N.t_float64) :: L) → K (.tuple #[.slice a0 n0 c0, .int .i64 u1]) w1) : CallsX P N.f_vector_Sub #[.slice q0 q0l q0c, .slice q1 q1l q1c] w K := by
  refine H.vector_Sub q0 q0l q0c q1 q1l q1c w _ ?_
  unfold S_vector_Sub
  unfold T_vector_Sub at hx
  have h := hx
  clear hx
  try dsimp only
  replace h := bnd h
  obtain ⟨⟨t1, t2⟩, ho1, h⟩ := h
  refine wk_vector_each H hS hq0 hq1 (by intro v0 v1 w L1 r1 K hL hx hS hK; exact wk_vector_Sub_1 H hS  hx hK) ho1 ?_; clear hS ho1; rintro a1 m1 c1 ws1 w rfl hS
  refine ⟨_, _, _, _, rfl, ?_⟩
  have h := some_inj h
  cases h
  exact hK _ _ _ _ _ rfl hS

theorem wk_girderref09_Sub {N : Nums} {P : Program} (H : AllOk N P) {w0 w : World} {L : List It} {q0 : Option Addr} {q0l q0c : Nat} {ws0 : List Nat} {q1 : Option Addr} {q1l q1c : Nat} {ws1 : List Nat} {u0 : List Nat} {u1 : Int} (hS : Ho w0 w (L)) (hq0 : Ent L (rdA (List.map (Value.float .f64) ws0) q0 q0l q0c)) (hq1 : Ent L (rdA (List.map (Value.float .f64) ws1) q1 q1l q1c)) (hx : T_girderref09_Sub (List.map nf ws0) (List.map nf ws1) = some (u0, u1)) {K : Value → World → Prop} (hK : ∀ (a0 : Option Addr) (n0 c0 : Nat) (rws0 : List Nat) (w1 : World), List.map nf rws0 = u0 → Ho w0 w1 ((sl a0 n0 c0 (List.map (Value.float .f64) rws0) N.t_float64) :: L) → K (.tuple #[.slice a0 n0 c0, .int .i64 u1]) w1) : CallsX P N.f_girderref09_Sub #[.slice q0 q0l q0c, .slice q1 q1l q1c] w K := by
  refine H.girderref09_Sub q0 q0l q0c q1 q1l q1c w _ ?_
  unfold S_girderref09_Sub
  unfold T_girderref09_Sub at hx
  have h := hx
  clear hx
  try dsimp only
  replace h := bnd h
  obtain ⟨t1, ht1, h⟩ := h
  refine wk_girderref09_Fit H hS hq0 hq1 ht1 ?_; clear hS ht1; rintro w hS
  refine ⟨_, rfl, ?_⟩
  refine cond_s h ?_ ?_ <;> clear h <;> intro hc h
  · replace hS := hS.none (α := Nat) (enc := (Value.float .f64)) (t := N.t_float64)
    have h := some_inj h
    cases h
    exact hK _ _ _ _ _ rfl hS
  · replace h := bnd h
    obtain ⟨o5, h5, c5⟩ := h
    refine cutM_i (fun s w => ∃ (a1 : Option Addr) (m2 : Nat) (c3 : Nat) (ws4 : List Nat), (List.map nf ws4) = o5 ∧ s = ((a1, m2, c3), ()) ∧ Ho w0 w ((sl a1 m2 c3 (List.map (Value.float .f64) ws4) N.t_float64) :: L)) (fun J5 hJ5 => ?_) ?_
    · have h := h5
      clear h5
      replace hS := hS.none (α := Nat) (enc := (Value.float .f64)) (t := N.t_float64)
      refine iter_sim (fun s w t => ∃ (t3 : Int) (a6 : Option Addr) (m7 : Nat) (c8 : Nat) (ws9 : List Nat), (t3, (List.map nf ws9)) = t ∧ s = ((a6, m7, c8), t3, ()) ∧ Ho w0 w ((sl a6 m7 c8 (List.map (Value.float .f64) ws9) N.t_float64) :: L)) ?_ h ⟨_, _, _, _, _, rfl, rfl, hS⟩
      clear h hS
      rintro s w t X q ⟨t3, a6, m7, c8, ws9, rfl, rfl, hS⟩ h hX hO
      unfold T_girderref09_Sub_b2 at h
      try dsimp only
      replace h := bnd h
      obtain ⟨t5, ht5, h⟩ := h
      obtain rfl := lenF ht5 ((hq0.mono tl1).now (fun _ h => h) hS)
      clear ht5
      refine cond_s h ?_ ?_ <;> clear h <;> intro hc h
      · replace h := bnd h
        obtain ⟨t6, ht6, h⟩ := h
        obtain ⟨z10, rfl, q11x, q11l, q11r⟩ := atF ht6
        clear ht6
        refine idx_s ((hq0.mono tl1).now (fun _ h => h) hS) q11x q11l q11r ?_; intro b12 hb12
        refine ⟨_, rd_get ((hq0.mono tl1).now (fun _ h => h) hS) hb12 q11x, ?_⟩
        replace h := bnd h
        obtain ⟨t7, ht7, h⟩ := h
        obtain ⟨z13, rfl, q14x, q14l, q14r⟩ := atF ht7
        clear ht7
        refine idx_s ((hq1.mono tl1).now (fun _ h => h) hS) q14x q14l q14r ?_; intro b15 hb15
        refine ⟨_, rd_get ((hq1.mono tl1).now (fun _ h => h) hS) hb15 q14x, ?_⟩
        replace h := bnd h
        obtain ⟨t8, ht8, h⟩ := h
        refine fsub_s ht8 hS ?_; clear ht8; rintro z16 _ rfl _
        refine drM_s hS ?_; clear hS; intro w hS
        replace h := bnd h
        obtain ⟨t9, ht9, h⟩ := h
        obtain rfl : (List.map nf ([z16] : List Nat)) = t9 := some_inj ht9
        clear ht9
        refine lit_s (ks := [z16]) (enc := (Value.float .f64)) (m := 1) hS rfl rfl ?_; clear hS; intro r17 w hS
        refine drM_s hS ?_; clear hS; intro w hS
        replace h := bnd h
        obtain ⟨t10, ht10, h⟩ := h
        obtain ⟨rfl, kt10⟩ := appF ht10
        clear ht10
        replace hS := ro1 hS
        refine app_s hS kt10 ((Ent.sl mp1).now (fun _ h => h) hS) (fun _ => rfl) rfl ?_; clear hS kt10; intro a18 c18 w hS
        refine drM_s hS ?_; clear hS; intro w hS
        obtain rfl := some_inj h
        exact hX _ rfl _ _ ⟨_, _, _, _, _, rfl, rfl, (hS.pick (A := [_, _]) [0] rfl)⟩
      · obtain rfl := some_inj h
        have h := congrArg some (hO _ rfl)
        obtain rfl := some_inj h
        exact hJ5 _ _ ⟨_, _, _, _, rfl, rfl, hS⟩
    · clear h5 hS
      rintro s w ⟨a1, m2, c3, ws4, rfl, rfl, hS⟩
      have h := c5
      clear c5
      try dsimp only
      have h := some_inj h
      cases h
      exact hK _ _ _ _ _ rfl hS

theorem wk_girderref09_Dot {N : Nums} {P : Program} (H : AllOk N P) {w0 w : World} {L : List It} {q0 : Option Addr} {q0l q0c : Nat} {ws0 : List Nat} {q1 : Option Addr} {q1l q1c : Nat} {ws1 : List Nat} {u0 : Nat} {u1 : Int} (hS : Ho w0 w (L)) (hq0 : Ent L (rdA (List.map (Value.float .f64) ws0) q0 q0l q0c)) (hq1 : Ent L (rdA (List.map (Value.float .f64) ws1) q1 q1l q1c)) (hx : T_girderref09_Dot (List.map nf ws0) (List.map nf ws1) = some (u0, u1)) {K : Value → World → Prop} (hK : ∀ (z0 : Nat) (w1 : World), nf z0 = u0 → Ho w0 w1 (L) → K (.tuple #[.float .f64 z0, .int .i64 u1]) w1) : CallsX P N.f_girderref09_Dot #[.slice q0 q0l q0c, .slice q1 q1l q1c] w K := by
  refine H.girderref09_Dot q0 q0l q0c q1 q1l q1c w _ ?_
  unfold S_girderref09_Dot
  unfold T_girderref09_Dot at hx
  have h := hx
  clear hx
  try dsimp only
  replace h := bnd h
  obtain ⟨t1, ht1, h⟩ := h
  refine wk_girderref09_Fit H hS hq0 hq1 ht1 ?_; clear hS ht1; rintro w hS
  refine ⟨_, rfl, ?_⟩
  refine cond_s h ?_ ?_ <;> clear h <;> intro hc h
  · have h := some_inj h
    cases h
    exact hK _ _ rfl hS
  · replace h := bnd h
    obtain ⟨o2, h2, c2⟩ := h
    refine cutM_i (fun s w => ∃ (z1 : Nat), (nf z1) = o2 ∧ s = (z1, ()) ∧ Ho w0 w (L)) (fun J2 hJ2 => ?_) ?_
    · have h := h2
      clear h2
      refine iter_sim (fun s w t => ∃ (z3 : Nat) (t4 : Int), ((nf z3), t4) = t ∧ s = (z3, t4, ()) ∧ Ho w0 w (L)) ?_ h ⟨_, _, rfl, rfl, hS⟩
      clear h hS
      rintro s w t X q ⟨z3, t4, rfl, rfl, hS⟩ h hX hO
      unfold T_girderref09_Dot_b2 at h
      try dsimp only
      replace h := bnd h
      obtain ⟨t5, ht5, h⟩ := h
      obtain rfl := lenF ht5 (hq0.now (fun _ h => h) hS)
      clear ht5
      refine cond_s h ?_ ?_ <;> clear h <;> intro hc h
      · replace h := bnd h
        obtain ⟨t6, ht6, h⟩ := h
        obtain ⟨z4, rfl, q5x, q5l, q5r⟩ := atF ht6
        clear ht6
        refine idx_s (hq0.now (fun _ h => h) hS) q5x q5l q5r ?_; intro b6 hb6
        refine ⟨_, rd_get (hq0.now (fun _ h => h) hS) hb6 q5x, ?_⟩
        replace h := bnd h
        obtain ⟨t7, ht7, h⟩ := h
        obtain ⟨z7, rfl, q8x, q8l, q8r⟩ := atF ht7
        clear ht7
        refine idx_s (hq1.now (fun _ h => h) hS) q8x q8l q8r ?_; intro b9 hb9
        refine ⟨_, rd_get (hq1.now (fun _ h => h) hS) hb9 q8x, ?_⟩
        replace h := bnd h
        obtain ⟨t8, ht8, h⟩ := h
        refine fmul_s ht8 hS ?_; clear ht8; rintro z10 _ rfl _
        refine drM_s hS ?_; clear hS; intro w hS
        replace h := bnd h
        obtain ⟨t9, ht9, h⟩ := h
        refine fadd_s ht9 hS ?_; clear hS ht9; rintro z11 w rfl hS
        obtain rfl := some_inj h
        exact hX _ rfl _ _ ⟨_, _, rfl, rfl, hS⟩
      · obtain rfl := some_inj h
        have h := congrArg some (hO _ rfl)
        obtain rfl := some_inj h
        exact hJ2 _ _ ⟨_, rfl, rfl, hS⟩
    · clear h2 hS
      rintro s w ⟨z1, rfl, rfl, hS⟩
      have h := c2
      clear c2
      try dsimp only
      have h := some_inj h
      cases h
      exact hK _ _ rfl hS

theorem wk_vector_Scale {N : Nums} {P : Program} (H : AllOk N P) {w0 w : World} {L : List It} {q0 : Nat} {q1 : Option Addr} {q1l q1c : Nat} {ws1 : List Nat} {u0 : List Nat} (hS : Ho w0 w (L)) (hq1 : Ent L (rdA (List.map (Value.float .f64) ws1) q1 q1l q1c)) (hx : T_vector_Scale (nf q0) (List.map nf ws1) = some u0) {K : Value → World → Prop} (hK : ∀ (a0 : Option Addr) (n0 c0 : Nat) (rws0 : List Nat) (w1 : World), List.map nf rws0 = u0 → Ho w0 w1 ((sl a0 n0 c0 (List.map (Value.float .f64) rws0) N.t_float64) :: L) → K (.slice a0 n0 c0) w1) : CallsX P N.f_vector_Scale #[.float .f64 q0, .slice q1 q1l q1c] w K := by
  refine H.vector_Scale q0 q1 q1l q1c w _ ?_
  unfold S_vector_Scale
  unfold T_vector_Scale at hx
  have h := hx
  clear hx
  try dsimp only
  replace h := bnd h
  obtain ⟨t1, ht1, h⟩ := h
  obtain rfl := lenF ht1 (hq1.now (fun _ h => h) hS)
  clear ht1
  replace h := bnd h
  obtain ⟨t2, ht2, h⟩ := h
  obtain ⟨rfl, kt2⟩ := mkF ht2
  clear ht2
  refine mk_s (enc := (Value.float .f64)) hS kt2 rfl ?_; clear hS kt2; intro r1 w hS
  replace h := bnd h
  obtain ⟨t3, ht3, h⟩ := h
  obtain rfl := lenF ht3 ((hq1.mono tl1).now (fun _ h => h) hS)
  clear ht3
  replace h := bnd h
  obtain ⟨o6, h6, c6⟩ := h
  refine cutM_i (fun s w => ∃ (a2 : Option Addr) (m3 : Nat) (c4 : Nat) (ws5 : List Nat), (List.map nf ws5) = o6 ∧ s = ((a2, m3, c4), ()) ∧ Ho w0 w ((sl a2 m3 c4 (List.map (Value.float .f64) ws5) N.t_float64) :: L)) (fun J6 hJ6 => ?_) ?_
  · have h := h6
    clear h6
    refine iter_sim (fun s w t => ∃ (t5 : Int) (a7 : Option Addr) (m8 : Nat) (c9 : Nat) (ws10 : List Nat), (t5, (List.map nf ws10)) = t ∧ s = ((a7, m8, c9), t5, ()) ∧ Ho w0 w ((sl a7 m8 c9 (List.map (Value.float .f64) ws10) N.t_float64) :: L)) ?_ h ⟨_, _, _, _, _, rfl, rfl, hS⟩
    clear h hS
    rintro s w t X q ⟨t5, a7, m8, c9, ws10, rfl, rfl, hS⟩ h hX hO
    unfold T_vector_Scale_b2 at h
    try dsimp only
    refine cond_s h ?_ ?_ <;> clear h <;> intro hc h
    · replace h := bnd h
      obtain ⟨t7, ht7, h⟩ := h
      obtain ⟨z11, rfl, q12x, q12l, q12r⟩ := atF ht7
      clear ht7
      refine idx_s ((hq1.mono tl1).now (fun _ h => h) hS) q12x q12l q12r ?_; intro b13 hb13
      refine ⟨_, rd_get ((hq1.mono tl1).now (fun _ h => h) hS) hb13 q12x, ?_⟩
      replace h := bnd h
      obtain ⟨t8, ht8, h⟩ := h
      refine fmul_s ht8 hS ?_; clear hS ht8; rintro z14 w rfl hS
      replace h := bnd h
      obtain ⟨t9, ht9, h⟩ := h
      obtain rfl : (List.map nf ([z14] : List Nat)) = t9 := some_inj ht9
      clear ht9
      refine lit_s (ks := [z14]) (enc := (Value.float .f64)) (m := 1) hS rfl rfl ?_; clear hS; intro r15 w hS
      replace h := bnd h
      obtain ⟨t10, ht10, h⟩ := h
      obtain ⟨rfl, kt10⟩ := appF ht10
      clear ht10
      replace hS := ro1 hS
      refine app_s hS kt10 ((Ent.sl mp1).now (fun _ h => h) hS) (fun _ => rfl) rfl ?_; clear hS kt10; intro a16 c16 w hS
      obtain rfl := some_inj h
      exact hX _ rfl _ _ ⟨_, _, _, _, _, rfl, rfl, (hS.pick (A := [_, _]) [0] rfl)⟩
    · obtain rfl := some_inj h
      have h := congrArg some (hO _ rfl)
      obtain rfl := some_inj h
      exact hJ6 _ _ ⟨_, _, _, _, rfl, rfl, hS⟩
  · clear h6 hS
    rintro s w ⟨a2, m3, c4, ws5, rfl, rfl, hS⟩
    have h := c6
    clear c6
    try dsimp only
    have h := some_inj h
    cases h
    exact hK _ _ _ _ _ rfl hS

theorem wk_girderref09_Scale {N : Nums} {P : Program} (H : AllOk N P) {w0 w : World} {L : List It} {q0 : Nat} {q1 : Option Addr} {q1l q1c : Nat} {ws1 : List Nat} {u0 : List Nat} (hS : Ho w0 w (L)) (hq1 : Ent L (rdA (List.map (Value.float .f64) ws1) q1 q1l q1c)) (hx : T_girderref09_Scale (nf q0) (List.map nf ws1) = some u0) {K : Value → World → Prop} (hK : ∀ (a0 : Option Addr) (n0 c0 : Nat) (rws0 : List Nat) (w1 : World), List.map nf rws0 = u0 → Ho w0 w1 ((sl a0 n0 c0 (List.map (Value.float .f64) rws0) N.t_float64) :: L) → K (.slice a0 n0 c0) w1) : CallsX P N.f_girderref09_Scale #[.float .f64 q0, .slice q1 q1l q1c] w K := by
  refine H.girderref09_Scale q0 q1 q1l q1c w _ ?_
  unfold S_girderref09_Scale
  unfold T_girderref09_Scale at hx
  have h := hx
  clear hx
  try dsimp only
  replace h := bnd h
  obtain ⟨o5, h5, c5⟩ := h
  refine cutM_i (fun s w => ∃ (a1 : Option Addr) (m2 : Nat) (c3 : Nat) (ws4 : List Nat), (List.map nf ws4) = o5 ∧ s = ((a1, m2, c3), ()) ∧ Ho w0 w ((sl a1 m2 c3 (List.map (Value.float .f64) ws4) N.t_float64) :: L)) (fun J5 hJ5 => ?_) ?_
  · have h := h5
    clear h5
    replace hS := hS.none (α := Nat) (enc := (Value.float .f64)) (t := N.t_float64)
    refine iter_sim (fun s w t => ∃ (t2 : Int) (a6 : Option Addr) (m7 : Nat) (c8 : Nat) (ws9 : List Nat), (t2, (List.map nf ws9)) = t ∧ s = ((a6, m7, c8), t2, ()) ∧ Ho w0 w ((sl a6 m7 c8 (List.map (Value.float .f64) ws9) N.t_float64) :: L)) ?_ h ⟨_, _, _, _, _, rfl, rfl, hS⟩
    clear h hS
    rintro s w t X q ⟨t2, a6, m7, c8, ws9, rfl, rfl, hS⟩ h hX hO
    unfold T_girderref09_Scale_b2 at h
    try dsimp only
    replace h := bnd h
    obtain ⟨t4, ht4, h⟩ := h
    obtain rfl := lenF ht4 ((hq1.mono tl1).now (fun _ h => h) hS)
    clear ht4
    refine cond_s h ?_ ?_ <;> clear h <;> intro hc h
    · replace h := bnd h
      obtain ⟨t5, ht5, h⟩ := h
      obtain ⟨z10, rfl, q11x, q11l, q11r⟩ := atF ht5
      clear ht5
      refine idx_s ((hq1.mono tl1).now (fun _ h => h) hS) q11x q11l q11r ?_; intro b12 hb12
      refine ⟨_, rd_get ((hq1.mono tl1).now (fun _ h => h) hS) hb12 q11x, ?_⟩
      replace h := bnd h
      obtain ⟨t6, ht6, h⟩ := h
      refine fmul_s ht6 hS ?_; clear hS ht6; rintro z13 w rfl hS
      replace h := bnd h
      obtain ⟨t7, ht7, h⟩ := h
      obtain rfl : (List.map nf ([z13] : List Nat)) = t7 := some_inj ht7
      clear ht7
      refine lit_s (ks := [z13]) (enc := (Value.float .f64)) (m := 1) hS rfl rfl ?_; clear hS; intro r14 w hS
      replace h := bnd h
      obtain ⟨t8, ht8, h⟩ := h
      obtain ⟨rfl, kt8⟩ := appF ht8
      clear ht8
      replace hS := ro1 hS
      refine app_s hS kt8 ((Ent.sl mp1).now (fun _ h => h) hS) (fun _ => rfl) rfl ?_; clear hS kt8; intro a15 c15 w hS
      obtain rfl := some_inj h
      exact hX _ rfl _ _ ⟨_, _, _, _, _, rfl, rfl, (hS.pick (A := [_, _]) [0] rfl)⟩
    · obtain rfl := some_inj h
      have h := congrArg some (hO _ rfl)
      obtain rfl := some_inj h
      exact hJ5 _ _ ⟨_, _, _, _, rfl, rfl, hS⟩
  · clear h5 hS
    rintro s w ⟨a1, m2, c3, ws4, rfl, rfl, hS⟩
    have h := c5
    clear c5
    try dsimp only
    have h := some_inj h
    cases h
    exact hK _ _ _ _ _ rfl hS

theorem wk_girderlaw09_VectorSums {N : Nums} {P : Program} (H : AllOk N P) {w0 w : World} {L : List It} {q0 : Nat} {q1 : Option Addr} {q1l q1c : Nat} {ws1 : List Nat} {q2 : Option Addr} {q2l q2c : Nat} {ws2 : List Nat} {u0 : Bool} (hS : Ho w0 w (L)) (hq1 : Ent L (rdA (List.map (Value.float .f64) ws1) q1 q1l q1c)) (hq2 : Ent L (rdA (List.map (Value.float .f64) ws2) q2 q2l q2c)) (hx : T_girderlaw09_VectorSums (nf q0) (List.map nf ws1) (List.map nf ws2) = some u0) {K : Value → World → Prop} (hK : ∀  (w1 : World), Ho w0 w1 (L) → K (.bool u0) w1) : CallsX P N.f_girderlaw09_VectorSums #[.float .f64 q0, .slice q1 q1l q1c, .slice q2 q2l q2c] w K := by
  refine H.girderlaw09_VectorSums q0 q1 q1l q1c q2 q2l q2c w _ ?_
  unfold S_girderlaw09_VectorSums
  unfold T_girderlaw09_VectorSums at hx
  have h := hx
  clear hx
  try dsimp only
  replace h := bnd h
  obtain ⟨o1, h1, c1⟩ := h
  refine cutM_i (fun s w =>  .inl () = o1 ∧ s = (()) ∧ Ho w0 w (L)) (fun J1 hJ1 => ?_) ?_
  · have h := h1
    clear h1
    replace hS := hS.voidItem
    replace hS := hS.voidItem
    refine iter_sim (fun s w t => ∃ (t1 : Int) (a2 : Option Addr) (m3 : Nat) (c4 : Nat) (ws5 : List Nat) (it6 : It) (a8 : Option Addr) (m9 : Nat) (c10 : Nat) (ws11 : List Nat) (it12 : It), (t1, (List.map nf ws5), (List.map nf ws11)) = t ∧ s = ((a2, m3, c4), (a8, m9, c10), t1, ()) ∧ Ent (it6 :: L) (rdA (List.map (Value.float .f64) ws5) a2 m3 c4) ∧ Ent (it12 :: L) (rdA (List.map (Value.float .f64) ws11) a8 m9 c10) ∧ Ho w0 w (it6 :: it12 :: L)) ?_ h ⟨_, _, _, _, _, _, _, _, _, _, _, rfl, rfl, (hq1.mono tl1), (hq2.mono tl1), (hS.pick (A := [_, _]) [1, 0] rfl)⟩
    clear h hS
    rintro s w t X q ⟨t1, a2, m3, c4, ws5, it6, a8, m9, c10, ws11, it12, rfl, rfl, e7, e13, hS⟩ h hX hO
    unfold T_girderlaw09_VectorSums_b2 at h
    try dsimp only
    refine cond_s h ?_ ?_ <;> clear h <;> intro hc h
    · replace h := bnd h
      obtain ⟨⟨t4, t5⟩, ho4, h⟩ := h
      refine wk_vector_Add H hS (e7.mono (incl_cons mp0 tl2)) (e13.mono (incl_cons mp1 tl2)) ho4 ?_; clear hS ho4; rintro a14 m14 c14 ws14 w rfl hS
      refine ⟨_, _, _, _, rfl, ?_⟩
      replace h := bnd h
      obtain ⟨⟨t6, t7⟩, ho6, h⟩ := h
      refine wk_girderref09_Add H hS (e7.mono (incl_cons mp1 tl3)) (e13.mono (incl_cons mp2 tl3)) ho6 ?_; clear hS ho6; rintro a15 m15 c15 ws15 w rfl hS
      refine ⟨_, _, _, _, rfl, ?_⟩
      replace h := bnd h
      obtain ⟨⟨t8, t9⟩, ho8, h⟩ := h
      refine wk_vector_Sub H hS (e7.mono (incl_cons mp2 tl4)) (e13.mono (incl_cons mp3 tl4)) ho8 ?_; clear hS ho8; rintro a16 m16 c16 ws16 w rfl hS
      refine ⟨_, _, _, _, rfl, ?_⟩
      replace h := bnd h
      obtain ⟨⟨t10, t11⟩, ho10, h⟩ := h
      refine wk_girderref09_Sub H hS (e7.mono (incl_cons mp3 tl5)) (e13.mono (incl_cons mp4 tl5)) ho10 ?_; clear hS ho10; rintro a17 m17 c17 ws17 w rfl hS
      refine ⟨_, _, _, _, rfl, ?_⟩
      replace h := bnd h
      obtain ⟨o18, h18, c18⟩ := h
      refine cutM_i (fun s w => ∃ (t12 : Bool), t12 = o18 ∧ s = (t12, ()) ∧ Ho w0 w (it6 :: it12 :: L)) (fun J18 hJ18 => ?_) ?_
      · have h := h18
        clear h18
        replace h := bnd h
        obtain ⟨t13, ht13, h⟩ := h
        refine wk_girderkit_SameReals H hS (Ent.sl mp3) (Ent.sl mp2) ht13 ?_; clear hS ht13; rintro w hS
        refine ⟨_, rfl, ?_⟩
        refine cond_s h ?_ ?_ <;> clear h <;> intro hc h
        · refine cond_s h ?_ ?_ <;> clear h <;> intro hc h
          · replace h := bnd h
            obtain ⟨t14, ht14, h⟩ := h
            refine wk_girderkit_SameReals H hS (Ent.sl mp1) (Ent.sl mp0) ht14 ?_; clear hS ht14; rintro w hS
            refine ⟨_, rfl, ?_⟩
            refine cond_s h ?_ ?_ <;> clear h <;> intro hc h
            · obtain rfl := some_inj h
              exact hJ18 _ _ ⟨_, rfl, rfl, (hS.pick (A := [_, _, _, _, _, _]) [4, 4] rfl)⟩
            · obtain rfl := some_inj h
              exact hJ18 _ _ ⟨_, rfl, rfl, (hS.pick (A := [_, _, _, _, _, _]) [4, 4] rfl)⟩
          · obtain rfl := some_inj h
            exact hJ18 _ _ ⟨_, rfl, rfl, (hS.pick (A := [_, _, _, _, _, _]) [4, 4] rfl)⟩
        · obtain rfl := some_inj h
          exact hJ18 _ _ ⟨_, rfl, rfl, (hS.pick (A := [_, _, _, _, _, _]) [4, 4] rfl)⟩
      · clear h18 hS
        rintro s w ⟨t12, rfl, rfl, hS⟩
        have h := c18
        clear c18
        try dsimp only
        refine cond_s h ?_ ?_ <;> clear h <;> intro hc h
        · obtain rfl := some_inj h
          have h := congrArg some (hO _ rfl)
          obtain rfl := some_inj h
          have h := c1
          have h := some_inj h
          cases h
          exact hK _ (hS.pick (A := [_, _]) [] rfl)
        · replace h := bnd h
          obtain ⟨⟨t15, t16⟩, ho15, h⟩ := h
          refine wk_vector_Axpy H hS (e7.mono (incl_cons mp0 tl2)) (e13.mono (incl_cons mp1 tl2)) ho15 ?_; clear hS ho15; rintro a19 m19 c19 ws19 w rfl hS
          refine ⟨_, _, _, _, rfl, ?_⟩
          replace h := bnd h
          obtain ⟨⟨t17, t18⟩, ho17, h⟩ := h
          refine wk_girderref09_Axpy H hS (e7.mono (incl_cons mp1 tl3)) (e13.mono (incl_cons mp2 tl3)) ho17 ?_; clear hS ho17; rintro a20 m20 c20 ws20 w rfl hS
          refine ⟨_, _, _, _, rfl, ?_⟩
          replace h := bnd h
          obtain ⟨⟨t19, t20⟩, ho19, h⟩ := h
          refine wk_vector_Dot H hS (e7.mono (incl_cons mp2 tl4)) (e13.mono (incl_cons mp3 tl4)) ho19 ?_; clear hS ho19; rintro z21 w rfl hS
          refine ⟨_, _, rfl, ?_⟩
          replace h := bnd h
          obtain ⟨⟨t21, t22⟩, ho21, h⟩ := h
          refine wk_girderref09_Dot H hS (e7.mono (incl_cons mp2 tl4)) (e13.mono (incl_cons mp3 tl4)) ho21 ?_; clear hS ho21; rintro z22 w rfl hS
          refine ⟨_, _, rfl, ?_⟩
          replace h := bnd h
          obtain ⟨o23, h23, c23⟩ := h
          refine cutM_i (fun s w => ∃ (t23 : Bool), t23 = o23 ∧ s = (t23, ()) ∧ Ho w0 w (it6 :: it12 :: L)) (fun J23 hJ23 => ?_) ?_
          · have h := h23
            clear h23
            replace h := bnd h
            obtain ⟨t24, ht24, h⟩ := h
            refine wk_girderkit_SameReals H hS (Ent.sl mp1) (Ent.sl mp0) ht24 ?_; clear hS ht24; rintro w hS
            refine ⟨_, rfl, ?_⟩
            refine cond_s h ?_ ?_ <;> clear h <;> intro hc h
            · refine cond_s h ?_ ?_ <;> clear h <;> intro hc h
              · replace h := bnd h
                obtain ⟨t25, ht25, h⟩ := h
                refine wk_girderkit_SameFloat H hS  ht25 ?_; clear hS ht25; rintro w hS
                refine ⟨_, rfl, ?_⟩
                refine cond_s h ?_ ?_ <;> clear h <;> intro hc h
                · refine cond_s h ?_ ?_ <;> clear h <;> intro hc h
                  · replace h := bnd h
                    obtain ⟨t26, ht26, h⟩ := h
                    refine wk_vector_Scale H hS (e7.mono (incl_cons mp2 tl4)) ht26 ?_; clear hS ht26; rintro a24 m24 c24 ws24 w rfl hS
                    refine ⟨_, _, _, rfl, ?_⟩
                    replace h := bnd h
                    obtain ⟨t27, ht27, h⟩ := h
                    refine wk_girderref09_Scale H hS (e7.mono (incl_cons mp3 tl5)) ht27 ?_; clear hS ht27; rintro a25 m25 c25 ws25 w rfl hS
                    refine ⟨_, _, _, rfl, ?_⟩
                    replace h := bnd h
                    obtain ⟨t28, ht28, h⟩ := h
                    refine wk_girderkit_SameReals H hS (Ent.sl mp1) (Ent.sl mp0) ht28 ?_; clear hS ht28; rintro w hS
                    refine ⟨_, rfl, ?_⟩
                    obtain rfl := some_inj h
                    exact hJ23 _ _ ⟨_, rfl, rfl, (hS.pick (A := [_, _, _, _, _, _]) [4, 4] rfl)⟩
                  · obtain rfl := some_inj h
                    exact hJ23 _ _ ⟨_, rfl, rfl, (hS.pick (A := [_, _, _, _]) [2, 2] rfl)⟩
                · obtain rfl := some_inj h
                  exact hJ23 _ _ ⟨_, rfl, rfl, (hS.pick (A := [_, _, _, _]) [2, 2] rfl)⟩
              · obtain rfl := some_inj h
                exact hJ23 _ _ ⟨_, rfl, rfl, (hS.pick (A := [_, _, _, _]) [2, 2] rfl)⟩
            · obtain rfl := some_inj h
              exact hJ23 _ _ ⟨_, rfl, rfl, (hS.pick (A := [_, _, _, _]) [2, 2] rfl)⟩
          · clear h23 hS
            rintro s w ⟨t23, rfl, rfl, hS⟩
            have h := c23
            clear c23
            try dsimp only
            refine cond_s h ?_ ?_ <;> clear h <;> intro hc h
            · obtain rfl := some_inj h
              have h := congrArg some (hO _ rfl)
              obtain rfl := some_inj h
              have h := c1
              have h := some_inj h
              cases h
              exact hK _ (hS.pick (A := [_, _]) [] rfl)
            · replace h := bnd h
              obtain ⟨t29, ht29, h⟩ := h
              obtain rfl := lenF ht29 ((e7.mono (incl_cons mp0 tl2)).now (fun _ h => h) hS)
              clear ht29
              replace h := bnd h
              obtain ⟨t30, ht30, h⟩ := h
              obtain rfl := lenF ht30 ((e13.mono (incl_cons mp1 tl2)).now (fun _ h => h) hS)
              clear ht30
              replace h := bnd h
              obtain ⟨t31, ht31, h⟩ := h
              obtain ⟨rfl, q260, q261, q262⟩ := subF ht31
              clear ht31
              have q263 := ((e7.mono (incl_cons mp0 tl2)).now (fun _ h => h) hS).hiCap q262
              refine ⟨q261, q263, ?_⟩
              replace h := bnd h
              obtain ⟨t32, ht32, h⟩ := h
              obtain ⟨rfl, q270, q271, q272⟩ := subF ht32
              clear ht32
              have q273 := ((e13.mono (incl_cons mp1 tl2)).now (fun _ h => h) hS).hiCap q272
              refine ⟨q271, q273, ?_⟩
              refine drM_s hS ?_; clear hS; intro w hS
              obtain rfl := some_inj h
              exact hX _ rfl _ _ ⟨_, _, _, _, _, _, _, _, _, _, _, rfl, rfl, (Ent.upto e7 q261 q262), (Ent.upto e13 q271 q272), hS⟩
    · obtain rfl := some_inj h
      have h := congrArg some (hO _ rfl)
      obtain rfl := some_inj h
      exact hJ1 _ _ ⟨rfl, rfl, (hS.pick (A := [_, _]) [] rfl)⟩
  · clear h1 hS
    rintro s w ⟨rfl, rfl, hS⟩
    have h := c1
    clear c1
    try dsimp only
    replace h := bnd h
    obtain ⟨t33, ht33, h⟩ := h
    refine wk_girderlaw09_awake H hS  ht33 ?_; clear hS ht33; rintro w hS
    refine ⟨_, rfl, ?_⟩
    have h := some_inj h
    cases h
    exact hK _ hS

theorem wk_girderkit_Pick {N : Nums} {P : Program} (H : AllOk N P) {w0 w : World} {L : List It} {q0 : Int} {q1 : Int} {u0 : Int} (hS : Ho w0 w (L))  (hx : T_girderkit_Pick q0 q1 = some u0) {K : Value → World → Prop} (hK : ∀  (w1 : World), Ho w0 w1 (L) → K (.int .i64 u0) w1) : CallsX P N.f_girderkit_Pick #[.int .i64 q0, .int .i64 q1] w K := by
  refine H.girderkit_Pick q0 q1 w _ ?_
  unfold S_girderkit_Pick
  unfold T_girderkit_Pick at hx
  have h := hx
  clear hx
  try dsimp only
  refine cond_s h ?_ ?_ <;> clear h <;> intro hc h
  · have h := some_inj h
    cases h
    exact hK _ hS
  · replace h := bnd h
    obtain ⟨t2, ht2, h⟩ := h
    refine ⟨nz_s ht2, ?_⟩
    clear ht2
    replace h := bnd h
    obtain ⟨o1, h1, c1⟩ := h
    refine cutM_i (fun s w => ∃ (t1 : Int), t1 = o1 ∧ s = (t1, ()) ∧ Ho w0 w (L)) (fun J1 hJ1 => ?_) ?_
    · have h := h1
      clear h1
      refine cond_s h ?_ ?_ <;> clear h <;> intro hc h
      · obtain rfl := some_inj h
        exact hJ1 _ _ ⟨_, rfl, rfl, hS⟩
      · obtain rfl := some_inj h
        exact hJ1 _ _ ⟨_, rfl, rfl, hS⟩
    · clear h1 hS
      rintro s w ⟨t1, rfl, rfl, hS⟩
      have h := c1
      clear c1
      try dsimp only
      have h := some_inj h
      cases h
      exact hK _ hS

theorem wk_math_Inf {N : Nums} {P : Program} (H : AllOk N P) {w0 w : World} {L : List It} {q0 : Int} {u0 : Nat} (hS : Ho w0 w (L))  (hx : T_math_Inf q0 = some u0) {K : Value → World → Prop} (hK : ∀ (z0 : Nat) (w1 : World), nf z0 = u0 → Ho w0 w1 (L) → K (.float .f64 z0) w1) : CallsX P N.f_math_Inf #[.int .i64 q0] w K := by
  refine H.math_Inf q0 w _ ?_
  unfold S_math_Inf
  unfold T_math_Inf at hx
  have h := hx
  clear hx
  try dsimp only
  replace h := bnd h
  obtain ⟨o1, h1, c1⟩ := h
  refine cutM_i (fun s w => ∃ (t1 : Int), t1 = o1 ∧ s = (t1, ()) ∧ Ho w0 w (L)) (fun J1 hJ1 => ?_) ?_
  · have h := h1
    clear h1
    refine cond_s h ?_ ?_ <;> clear h <;> intro hc h
    · obtain rfl := some_inj h
      exact hJ1 _ _ ⟨_, rfl, rfl, hS⟩
    · obtain rfl := some_inj h
      exact hJ1 _ _ ⟨_, rfl, rfl, hS⟩
  · clear h1 hS
    rintro s w ⟨t1, rfl, rfl, hS⟩
    have h := c1
    clear c1
    try dsimp only
    replace h := bnd h
    obtain ⟨t2, ht2, h⟩ := h
    refine wk_math_Float64frombits H hS  ht2 ?_; clear hS ht2; rintro z2 w rfl hS
    refine ⟨_, rfl, ?_⟩
    have h := some_inj h
    cases h
    exact hK _ _ rfl hS

theorem wk_math_NaN {N : Nums} {P : Program} (H : AllOk N P) {w0 w : World} {L : List It}  {u0 : Nat} (hS : Ho w0 w (L))  (hx : T_math_NaN  = some u0) {K : Value → World → Prop} (hK : ∀ (z0 : Nat) (w1 : World), nf z0 = u0 → Ho w0 w1 (L) → K (.float .f64 z0) w1) : CallsX P N.f_math_NaN #[] w K := by
  refine H.math_NaN  w _ ?_
  unfold S_math_NaN
  unfold T_math_NaN at hx
  have h := hx
  clear hx
  try dsimp only
  replace h := bnd h
  obtain ⟨t1, ht1, h⟩ := h
  refine wk_math_Float64frombits H hS  ht1 ?_; clear hS ht1; rintro z1 w rfl hS
  refine ⟨_, rfl, ?_⟩
  have h := some_inj h
  cases h
  exact hK _ _ rfl hS

theorem wk_girderkit_Edge {N : Nums} {P : Program} (H : AllOk N P) {w0 w : World} {L : List It} {q0 : Int} {u0 : Nat} (hS : Ho w0 w (L))  (hx : T_girderkit_Edge q0 = some u0) {K : Value → World → Prop} (hK : ∀ (z0 : Nat) (w1 : World), nf z0 = u0 → Ho w0 w1 (L) → K (.float .f64 z0) w1) : CallsX P N.f_girderkit_Edge #[.int .i64 q0] w K := by
  refine H.girderkit_Edge q0 w _ ?_
  unfold S_girderkit_Edge
  unfold T_girderkit_Edge at hx
  have h := hx
  clear hx
  try dsimp only
  replace h := bnd h
  obtain ⟨t1, ht1, h⟩ := h
  refine wk_girderkit_Pick H hS  ht1 ?_; clear hS ht1; rintro w hS
  refine ⟨_, rfl, ?_⟩
  refine ⟨by decide, ?_⟩
  refine ⟨by decide, ?_⟩
  replace h := bnd h
  obtain ⟨o2, h2, c2⟩ := h
  refine cutM_i (fun s w => ∃ (z1 : Nat), (nf z1) = o2 ∧ s = (z1, ()) ∧ Ho w0 w (L)) (fun J2 hJ2 => ?_) ?_
  · have h := h2
    clear h2
    replace h := bnd h
    obtain ⟨o4, h4, c4⟩ := h
    refine cutM_i (fun s w => ∃ (z3 : Nat), (nf z3) = o4 ∧ s = (z3, ()) ∧ Ho w0 w (L)) (fun J4 hJ4 => ?_) ?_
    · have h := h4
      clear h4
      refine cond_s h ?_ ?_ <;> clear h <;> intro hc h
      · obtain rfl := some_inj h
        exact hJ4 _ _ ⟨_, rfl, rfl, hS⟩
      · replace h := bnd h
        obtain ⟨o6, h6, c6⟩ := h
        refine cutM_i (fun s w => ∃ (z5 : Nat), (nf z5) = o6 ∧ s = (z5, ()) ∧ Ho w0 w (L)) (fun J6 hJ6 => ?_) ?_
        · have h := h6
          clear h6
          refine cond_s h ?_ ?_ <;> clear h <;> intro hc h
          · replace h := bnd h
            obtain ⟨t5, ht5, h⟩ := h
            refine wk_math_Float64frombits H hS  ht5 ?_; clear hS ht5; rintro z7 w rfl hS
            refine ⟨_, rfl, ?_⟩
            obtain rfl := some_inj h
            exact hJ6 _ _ ⟨_, rfl, rfl, hS⟩
          · replace h := bnd h
            obtain ⟨o9, h9, c9⟩ := h
            refine cutM_i (fun s w => ∃ (z8 : Nat), (nf z8) = o9 ∧ s = (z8, ()) ∧ Ho w0 w (L)) (fun J9 hJ9 => ?_) ?_
            · have h := h9
              clear h9
              refine cond_s h ?_ ?_ <;> clear h <;> intro hc h
              · replace h := bnd h
                obtain ⟨t7, ht7, h⟩ := h
                refine wk_math_Float64frombits H hS  ht7 ?_; clear hS ht7; rintro z10 w rfl hS
                refine ⟨_, rfl, ?_⟩
                obtain rfl := some_inj h
                exact hJ9 _ _ ⟨_, rfl, rfl, hS⟩
              · replace h := bnd h
                obtain ⟨o12, h12, c12⟩ := h
                refine cutM_i (fun s w => ∃ (z11 : Nat), (nf z11) = o12 ∧ s = (z11, ()) ∧ Ho w0 w (L)) (fun J12 hJ12 => ?_) ?_
                · have h := h12
                  clear h12
                  refine cond_s h ?_ ?_ <;> clear h <;> intro hc h
                  · replace h := bnd h
                    obtain ⟨t9, ht9, h⟩ := h
                    refine wk_math_Float64frombits H hS  ht9 ?_; clear hS ht9; rintro z13 w rfl hS
                    refine ⟨_, rfl, ?_⟩
                    obtain rfl := some_inj h
                    exact hJ12 _ _ ⟨_, rfl, rfl, hS⟩
                  · replace h := bnd h
                    obtain ⟨o15, h15, c15⟩ := h
                    refine cutM_i (fun s w => ∃ (z14 : Nat), (nf z14) = o15 ∧ s = (z14, ()) ∧ Ho w0 w (L)) (fun J15 hJ15 => ?_) ?_
                    · have h := h15
                      clear h15
                      refine cond_s h ?_ ?_ <;> clear h <;> intro hc h
                      · replace h := bnd h
                        obtain ⟨t11, ht11, h⟩ := h
                        refine wk_math_Float64frombits H hS  ht11 ?_; clear hS ht11; rintro z16 w rfl hS
                        refine ⟨_, rfl, ?_⟩
                        obtain rfl := some_inj h
                        exact hJ15 _ _ ⟨_, rfl, rfl, hS⟩
                      · replace h := bnd h
                        obtain ⟨o18, h18, c18⟩ := h
                        refine cutM_i (fun s w => ∃ (z17 : Nat), (nf z17) = o18 ∧ s = (z17, ()) ∧ Ho w0 w (L)) (fun J18 hJ18 => ?_) ?_
                        · have h := h18
                          clear h18
                          refine cond_s h ?_ ?_ <;> clear h <;> intro hc h
                          · replace h := bnd h
                            obtain ⟨t13, ht13, h⟩ := h
                            refine wk_math_Float64frombits H hS  ht13 ?_; clear hS ht13; rintro z19 w rfl hS
                            refine ⟨_, rfl, ?_⟩
                            obtain rfl := some_inj h
                            exact hJ18 _ _ ⟨_, rfl, rfl, hS⟩
                          · replace h := bnd h
                            obtain ⟨o21, h21, c21⟩ := h
                            refine cutM_i (fun s w => ∃ (z20 : Nat), (nf z20) = o21 ∧ s = (z20, ()) ∧ Ho w0 w (L)) (fun J21 hJ21 => ?_) ?_
                            · have h := h21
                              clear h21
                              refine cond_s h ?_ ?_ <;> clear h <;> intro hc h
                              · obtain rfl := some_inj h
                                exact hJ21 _ _ ⟨_, rfl, rfl, hS⟩
                              · replace h := bnd h
                                obtain ⟨o23, h23, c23⟩ := h
                                refine cutM_i (fun s w => ∃ (z22 : Nat), (nf z22) = o23 ∧ s = (z22, ()) ∧ Ho w0 w (L)) (fun J23 hJ23 => ?_) ?_
                                · have h := h23
                                  clear h23
                                  refine cond_s h ?_ ?_ <;> clear h <;> intro hc h
                                  · replace h := bnd h
                                    obtain ⟨t16, ht16, h⟩ := h
                                    refine wk_math_Float64frombits H hS  ht16 ?_; clear hS ht16; rintro z24 w rfl hS
                                    refine ⟨_, rfl, ?_⟩
                                    obtain rfl := some_inj h
                                    exact hJ23 _ _ ⟨_, rfl, rfl, hS⟩
                                  · replace h := bnd h
                                    obtain ⟨o26, h26, c26⟩ := h
                                    refine cutM_i (fun s w => ∃ (z25 : Nat), (nf z25) = o26 ∧ s = (z25, ()) ∧ Ho w0 w (L)) (fun J26 hJ26 => ?_) ?_
                                    · have h := h26
                                      clear h26
                                      refine cond_s h ?_ ?_ <;> clear h <;> intro hc h
                                      · replace h := bnd h
                                        obtain ⟨t18, ht18, h⟩ := h
                                        refine wk_math_Inf H hS  ht18 ?_; clear hS ht18; rintro z27 w rfl hS
                                        refine ⟨_, rfl, ?_⟩
                                        obtain rfl := some_inj h
                                        exact hJ26 _ _ ⟨_, rfl, rfl, hS⟩
                                      · replace h := bnd h
                                        obtain ⟨o29, h29, c29⟩ := h
                                        refine cutM_i (fun s w => ∃ (z28 : Nat), (nf z28) = o29 ∧ s = (z28, ()) ∧ Ho w0 w (L)) (fun J29 hJ29 => ?_) ?_
                                        · have h := h29
                                          clear h29
                                          refine cond_s h ?_ ?_ <;> clear h <;> intro hc h
                                          · replace h := bnd h
                                            obtain ⟨t20, ht20, h⟩ := h
                                            refine wk_math_NaN H hS  ht20 ?_; clear hS ht20; rintro z30 w rfl hS
                                            refine ⟨_, rfl, ?_⟩
                                            obtain rfl := some_inj h
                                            exact hJ29 _ _ ⟨_, rfl, rfl, hS⟩
                                          · replace h := bnd h
                                            obtain ⟨o32, h32, c32⟩ := h
                                            refine cutM_i (fun s w => ∃ (z31 : Nat), (nf z31) = o32 ∧ s = (z31, ()) ∧ Ho w0 w (L)) (fun J32 hJ32 => ?_) ?_
                                            · have h := h32
                                              clear h32
                                              refine cond_s h ?_ ?_ <;> clear h <;> intro hc h
                                              · obtain rfl := some_inj h
                                                exact hJ32 _ _ ⟨_, rfl, rfl, hS⟩
                                              · replace h := bnd h
                                                obtain ⟨o34, h34, c34⟩ := h
                                                refine cutM_i (fun s w => ∃ (z33 : Nat), (nf z33) = o34 ∧ s = (z33, ()) ∧ Ho w0 w (L)) (fun J34 hJ34 => ?_) ?_
                                                · have h := h34
                                                  clear h34
                                                  refine cond_s h ?_ ?_ <;> clear h <;> intro hc h
                                                  · replace h := bnd h
                                                    obtain ⟨t23, ht23, h⟩ := h
                                                    refine wk_math_Float64frombits H hS  ht23 ?_; clear hS ht23; rintro z35 w rfl hS
                                                    refine ⟨_, rfl, ?_⟩
                                                    obtain rfl := some_inj h
                                                    exact hJ34 _ _ ⟨_, rfl, rfl, hS⟩
                                                  · replace h := bnd h
                                                    obtain ⟨o37, h37, c37⟩ := h
                                                    refine cutM_i (fun s w => ∃ (z36 : Nat), (nf z36) = o37 ∧ s = (z36, ()) ∧ Ho w0 w (L)) (fun J37 hJ37 => ?_) ?_
                                                    · have h := h37
                                                      clear h37
                                                      refine cond_s h ?_ ?_ <;> clear h <;> intro hc h
                                                      · replace h := bnd h
                                                        obtain ⟨t25, ht25, h⟩ := h
                                                        refine wk_math_Float64frombits H hS  ht25 ?_; clear hS ht25; rintro z38 w rfl hS
                                                        refine ⟨_, rfl, ?_⟩
                                                        obtain rfl := some_inj h
                                                        exact hJ37 _ _ ⟨_, rfl, rfl, hS⟩
                                                      · replace h := bnd h
                                                        obtain ⟨o40, h40, c40⟩ := h
                                                        refine cutM_i (fun s w => ∃ (z39 : Nat), (nf z39) = o40 ∧ s = (z39, ()) ∧ Ho w0 w (L)) (fun J40 hJ40 => ?_) ?_
                                                        · have h := h40
                                                          clear h40
                                                          refine cond_s h ?_ ?_ <;> clear h <;> intro hc h
                                                          · obtain rfl := some_inj h
                                                            exact hJ40 _ _ ⟨_, rfl, rfl, hS⟩
                                                          · replace h := bnd h
                                                            obtain ⟨o42, h42, c42⟩ := h
                                                            refine cutM_i (fun s w => ∃ (z41 : Nat), (nf z41) = o42 ∧ s = (z41, ()) ∧ Ho w0 w (L)) (fun J42 hJ42 => ?_) ?_
                                                            · have h := h42
                                                              clear h42
                                                              refine cond_s h ?_ ?_ <;> clear h <;> intro hc h
                                                              · obtain rfl := some_inj h
                                                                exact hJ42 _ _ ⟨_, rfl, rfl, hS⟩
                                                              · replace h := bnd h
                                                                obtain ⟨o44, h44, c44⟩ := h
                                                                refine cutM_i (fun s w => ∃ (z43 : Nat), (nf z43) = o44 ∧ s = (z43, ()) ∧ Ho w0 w (L)) (fun J44 hJ44 => ?_) ?_
                                                                · have h := h44
                                                                  clear h44
                                                                  refine cond_s h ?_ ?_ <;> clear h <;> intro hc h
                                                                  · obtain rfl := some_inj h
                                                                    exact hJ44 _ _ ⟨_, rfl, rfl, hS⟩
                                                                  · replace h := bnd h
                                                                    obtain ⟨o46, h46, c46⟩ := h
                                                                    refine cutM_i (fun s w => ∃ (z45 : Nat), (nf z45) = o46 ∧ s = (z45, ()) ∧ Ho w0 w (L)) (fun J46 hJ46 => ?_) ?_
                                                                    · have h := h46
                                                                      clear h46
                                                                      refine cond_s h ?_ ?_ <;> clear h <;> intro hc h
                                                                      · obtain rfl := some_inj h
                                                                        exact hJ46 _ _ ⟨_, rfl, rfl, hS⟩
                                                                      · replace h := bnd h
                                                                        obtain ⟨o48, h48, c48⟩ := h
                                                                        refine cutM_i (fun s w => ∃ (z47 : Nat), (nf z47) = o48 ∧ s = (z47, ()) ∧ Ho w0 w (L)) (fun J48 hJ48 => ?_) ?_
                                                                        · have h := h48
                                                                          clear h48
                                                                          refine cond_s h ?_ ?_ <;> clear h <;> intro hc h
                                                                          · obtain rfl := some_inj h
                                                                            exact hJ48 _ _ ⟨_, rfl, rfl, hS⟩
                                                                          · replace h := bnd h
                                                                            obtain ⟨o50, h50, c50⟩ := h
                                                                            refine cutM_i (fun s w => ∃ (z49 : Nat), (nf z49) = o50 ∧ s = (z49, ()) ∧ Ho w0 w (L)) (fun J50 hJ50 => ?_) ?_
                                                                            · have h := h50
                                                                              clear h50
                                                                              refine cond_s h ?_ ?_ <;> clear h <;> intro hc h
                                                                              · replace h := bnd h
                                                                                obtain ⟨t32, ht32, h⟩ := h
                                                                                refine wk_math_Float64frombits H hS  ht32 ?_; clear hS ht32; rintro z51 w rfl hS
                                                                                refine ⟨_, rfl, ?_⟩
                                                                                obtain rfl := some_inj h
                                                                                exact hJ50 _ _ ⟨_, rfl, rfl, hS⟩
                                                                              · replace h := bnd h
                                                                                obtain ⟨o53, h53, c53⟩ := h
                                                                                refine cutM_i (fun s w => ∃ (z52 : Nat), (nf z52) = o53 ∧ s = (z52, ()) ∧ Ho w0 w (L)) (fun J53 hJ53 => ?_) ?_
                                                                                · have h := h53
                                                                                  clear h53
                                                                                  refine cond_s h ?_ ?_ <;> clear h <;> intro hc h
                                                                                  · replace h := bnd h
                                                                                    obtain ⟨t34, ht34, h⟩ := h
                                                                                    refine wk_math_Float64frombits H hS  ht34 ?_; clear hS ht34; rintro z54 w rfl hS
                                                                                    refine ⟨_, rfl, ?_⟩
                                                                                    obtain rfl := some_inj h
                                                                                    exact hJ53 _ _ ⟨_, rfl, rfl, hS⟩
                                                                                  · refine ⟨by decide, ?_⟩
                                                                                    replace h := bnd h
                                                                                    obtain ⟨t35, ht35, h⟩ := h
                                                                                    refine wk_math_Float64frombits H hS  ht35 ?_; clear hS ht35; rintro z55 w rfl hS
                                                                                    refine ⟨_, rfl, ?_⟩
                                                                                    obtain rfl := some_inj h
                                                                                    exact hJ53 _ _ ⟨_, rfl, rfl, hS⟩
                                                                                · clear h53 hS
                                                                                  rintro s w ⟨z52, rfl, rfl, hS⟩
                                                                                  have h := c53
                                                                                  clear c53
                                                                                  try dsimp only
                                                                                  obtain rfl := some_inj h
                                                                                  exact hJ50 _ _ ⟨_, rfl, rfl, hS⟩
                                                                            · clear h50 hS
                                                                              rintro s w ⟨z49, rfl, rfl, hS⟩
                                                                              have h := c50
                                                                              clear c50
                                                                              try dsimp only
                                                                              obtain rfl := some_inj h
                                                                              exact hJ48 _ _ ⟨_, rfl, rfl, hS⟩
                                                                        · clear h48 hS
                                                                          rintro s w ⟨z47, rfl, rfl, hS⟩
                                                                          have h := c48
                                                                          clear c48
                                                                          try dsimp only
                                                                          obtain rfl := some_inj h
                                                                          exact hJ46 _ _ ⟨_, rfl, rfl, hS⟩
                                                                    · clear h46 hS
                                                                      rintro s w ⟨z45, rfl, rfl, hS⟩
                                                                      have h := c46
                                                                      clear c46
                                                                      try dsimp only
                                                                      obtain rfl := some_inj h
                                                                      exact hJ44 _ _ ⟨_, rfl, rfl, hS⟩
                                                                · clear h44 hS
                                                                  rintro s w ⟨z43, rfl, rfl, hS⟩
                                                                  have h := c44
                                                                  clear c44
                                                                  try dsimp only
                                                                  obtain rfl := some_inj h
                                                                  exact hJ42 _ _ ⟨_, rfl, rfl, hS⟩
                                                            · clear h42 hS
                                                              rintro s w ⟨z41, rfl, rfl, hS⟩
                                                              have h := c42
                                                              clear c42
                                                              try dsimp only
                                                              obtain rfl := some_inj h
                                                              exact hJ40 _ _ ⟨_, rfl, rfl, hS⟩
                                                        · clear h40 hS
                                                          rintro s w ⟨z39, rfl, rfl, hS⟩
                                                          have h := c40
                                                          clear c40
                                                          try dsimp only
                                                          obtain rfl := some_inj h
                                                          exact hJ37 _ _ ⟨_, rfl, rfl, hS⟩
                                                    · clear h37 hS
                                                      rintro s w ⟨z36, rfl, rfl, hS⟩
                                                      have h := c37
                                                      clear c37
                                                      try dsimp only
                                                      obtain rfl := some_inj h
                                                      exact hJ34 _ _ ⟨_, rfl, rfl, hS⟩
                                                · clear h34 hS
                                                  rintro s w ⟨z33, rfl, rfl, hS⟩
                                                  have h := c34
                                                  clear c34
                                                  try dsimp only
                                                  obtain rfl := some_inj h
                                                  exact hJ32 _ _ ⟨_, rfl, rfl, hS⟩
                                            · clear h32 hS
                                              rintro s w ⟨z31, rfl, rfl, hS⟩
                                              have h := c32
                                              clear c32
                                              try dsimp only
                                              obtain rfl := some_inj h
                                              exact hJ29 _ _ ⟨_, rfl, rfl, hS⟩
                                        · clear h29 hS
                                          rintro s w ⟨z28, rfl, rfl, hS⟩
                                          have h := c29
                                          clear c29
                                          try dsimp only
                                          obtain rfl := some_inj h
                                          exact hJ26 _ _ ⟨_, rfl, rfl, hS⟩
                                    · clear h26 hS
                                      rintro s w ⟨z25, rfl, rfl, hS⟩
                                      have h := c26
                                      clear c26
                                      try dsimp only
                                      obtain rfl := some_inj h
                                      exact hJ23 _ _ ⟨_, rfl, rfl, hS⟩
                                · clear h23 hS
                                  rintro s w ⟨z22, rfl, rfl, hS⟩
                                  have h := c23
                                  clear c23
                                  try dsimp only
                                  obtain rfl := some_inj h
                                  exact hJ21 _ _ ⟨_, rfl, rfl, hS⟩
                            · clear h21 hS
                              rintro s w ⟨z20, rfl, rfl, hS⟩
                              have h := c21
                              clear c21
                              try dsimp only
                              obtain rfl := some_inj h
                              exact hJ18 _ _ ⟨_, rfl, rfl, hS⟩
                        · clear h18 hS
                          rintro s w ⟨z17, rfl, rfl, hS⟩
                          have h := c18
                          clear c18
                          try dsimp only
                          obtain rfl := some_inj h
                          exact hJ15 _ _ ⟨_, rfl, rfl, hS⟩
                    · clear h15 hS
                      rintro s w ⟨z14, rfl, rfl, hS⟩
                      have h := c15
                      clear c15
                      try dsimp only
                      obtain rfl := some_inj h
                      exact hJ12 _ _ ⟨_, rfl, rfl, hS⟩
                · clear h12 hS
                  rintro s w ⟨z11, rfl, rfl, hS⟩
                  have h := c12
                  clear c12
                  try dsimp only
                  obtain rfl := some_inj h
                  exact hJ9 _ _ ⟨_, rfl, rfl, hS⟩
            · clear h9 hS
              rintro s w ⟨z8, rfl, rfl, hS⟩
              have h := c9
              clear c9
              try dsimp only
              obtain rfl := some_inj h
              exact hJ6 _ _ ⟨_, rfl, rfl, hS⟩
        · clear h6 hS
          rintro s w ⟨z5, rfl, rfl, hS⟩
          have h := c6
          clear c6
          try dsimp only
          obtain rfl := some_inj h
          exact hJ4 _ _ ⟨_, rfl, rfl, hS⟩
    · clear h4 hS
      rintro s w ⟨z3, rfl, rfl, hS⟩
      have h := c4
      clear c4
      try dsimp only
      obtain rfl := some_inj h
      exact hJ2 _ _ ⟨_, rfl, rfl, hS⟩
  · clear h2 hS
    rintro s w ⟨z1, rfl, rfl, hS⟩
    have h := c2
    clear c2
    try dsimp only
    refine cond_s h ?_ ?_ <;> clear h <;> intro hc h
    · replace h := bnd h
      obtain ⟨t36, ht36, h⟩ := h
      obtain rfl := fneg_s ht36
      clear ht36
      have h := some_inj h
      cases h
      exact hK _ _ rfl hS
    · have h := some_inj h
      cases h
      exact hK _ _ rfl hS

theorem wk_girderlaw09_VectorLimits {N : Nums} {P : Program} (H : AllOk N P) {w0 w : World} {L : List It}  {u0 : Bool} (hS : Ho w0 w (L))  (hx : T_girderlaw09_VectorLimits  = some u0) {K : Value → World → Prop} (hK : ∀  (w1 : World), Ho w0 w1 (L) → K (.bool u0) w1) : CallsX P N.f_girderlaw09_VectorLimits #[] w K := by
  refine H.girderlaw09_VectorLimits  w _ ?_
  unfold S_girderlaw09_VectorLimits
  unfold T_girderlaw09_VectorLimits at hx
  have h := hx
  clear hx
  try dsimp only
  replace h := bnd h
  obtain ⟨o5, h5, c5⟩ := h
  refine cutM_i (fun s w => ∃ (r1 : Nat) (ws2 : List Nat) (r3 : Nat) (ws4 : List Nat), ((List.map nf ws2), (List.map nf ws4)) = o5 ∧ s = (((some ⟨r3, 0, none⟩), (4097 : Int).toNat, (4097 : Int).toNat), ((some ⟨r1, 0, none⟩), (4096 : Int).toNat, (4096 : Int).toNat), ()) ∧ Ho w0 w ((sl (some ⟨r1, 0, none⟩) ((4096 : Int).toNat) ((4096 : Int).toNat) (List.map (Value.float .f64) ws2) N.t_float64) :: (sl (some ⟨r3, 0, none⟩) ((4097 : Int).toNat) ((4097 : Int).toNat) (List.map (Value.float .f64) ws4) N.t_float64) :: L)) (fun J5 hJ5 => ?_) ?_
  · have h := h5
    clear h5
    replace h := bnd h
    obtain ⟨t3, ht3, h⟩ := h
    replace h := bnd h
    obtain ⟨t4, ht4, h⟩ := h
    refine ⟨?_, ?_⟩
    · refine drM_s hS ?_; clear hS; intro w hS
      skip
      skip
      obtain ⟨rfl, kt3⟩ := mkF ht3
      clear ht3
      refine mk_s (enc := (Value.float .f64)) hS kt3 rfl ?_; clear hS kt3; intro r6 w hS
      refine drM_s hS ?_; clear hS; intro w hS
      skip
      skip
      obtain ⟨rfl, kt4⟩ := mkF ht4
      clear ht4
      refine mk_s (enc := (Value.float .f64)) hS kt4 rfl ?_; clear hS kt4; intro r7 w hS
      refine drM_s hS ?_; clear hS; intro w hS
      obtain rfl := some_inj h
      exact hJ5 _ _ ⟨_, _, _, _, rfl, rfl, hS⟩
    · refine drM_s hS ?_; clear hS; intro w hS
      skip
      skip
      obtain ⟨rfl, kt4⟩ := mkF ht4
      clear ht4
      refine mk_s (enc := (Value.float .f64)) hS kt4 rfl ?_; clear hS kt4; intro r8 w hS
      refine drM_s hS ?_; clear hS; intro w hS
      skip
      skip
      obtain ⟨rfl, kt3⟩ := mkF ht3
      clear ht3
      refine mk_s (enc := (Value.float .f64)) hS kt3 rfl ?_; clear hS kt3; intro r9 w hS
      refine drM_s hS ?_; clear hS; intro w hS
      obtain rfl := some_inj h
      exact hJ5 _ _ ⟨_, _, _, _, rfl, rfl, (hS.pick (A := [_, _]) [1, 0] rfl)⟩
  · clear h5 hS
    rintro s w ⟨r1, ws2, r3, ws4, rfl, rfl, hS⟩
    have h := c5
    clear c5
    try dsimp only
    replace h := bnd h
    obtain ⟨⟨t5, t6⟩, ho5, h⟩ := h
    refine wk_vector_Add H hS (Ent.sl mp1) (Ent.sl mp1) ho5 ?_; clear hS ho5; rintro a10 m10 c10 ws10 w rfl hS
    refine ⟨_, _, _, _, rfl, ?_⟩
    replace h := bnd h
    obtain ⟨⟨t7, t8⟩, ho7, h⟩ := h
    refine wk_vector_Sub H hS (Ent.sl mp2) (Ent.sl mp2) ho7 ?_; clear hS ho7; rintro a11 m11 c11 ws11 w rfl hS
    refine ⟨_, _, _, _, rfl, ?_⟩
    replace h := bnd h
    obtain ⟨⟨t9, t10⟩, ho9, h⟩ := h
    refine wk_vector_Axpy H hS (Ent.sl mp3) (Ent.sl mp3) ho9 ?_; clear hS ho9; rintro a12 m12 c12 ws12 w rfl hS
    refine ⟨_, _, _, _, rfl, ?_⟩
    replace h := bnd h
    obtain ⟨⟨t11, t12⟩, ho11, h⟩ := h
    refine wk_vector_Dot H hS (Ent.sl mp4) (Ent.sl mp4) ho11 ?_; clear hS ho11; rintro z13 w rfl hS
    refine ⟨_, _, rfl, ?_⟩
    replace h := bnd h
    obtain ⟨⟨t13, t14⟩, ho13, h⟩ := h
    refine wk_vector_Add H hS (Ent.sl mp4) (Ent.sl mp3) ho13 ?_; clear hS ho13; rintro a14 m14 c14 ws14 w rfl hS
    refine ⟨_, _, _, _, rfl, ?_⟩
    replace h := bnd h
    obtain ⟨⟨t15, t16⟩, ho15, h⟩ := h
    refine wk_vector_Axpy H hS (Ent.sl mp4) (Ent.sl mp4) ho15 ?_; clear hS ho15; rintro a15 m15 c15 ws15 w rfl hS
    refine ⟨_, _, _, _, rfl, ?_⟩
    replace h := bnd h
    obtain ⟨⟨t17, t18⟩, ho17, h⟩ := h
    refine wk_vector_Dot H hS (Ent.sl mp5) (Ent.sl mp5) ho17 ?_; clear hS ho17; rintro z16 w rfl hS
    refine ⟨_, _, rfl, ?_⟩
    replace h := bnd h
    obtain ⟨o17, h17, c17⟩ := h
    refine cutM_i (fun s w => ∃ (t19 : Bool), t19 = o17 ∧ s = (t19, ()) ∧ Ho w0 w ((sl (some ⟨r3, 0, none⟩) ((4097 : Int).toNat) ((4097 : Int).toNat) (List.map (Value.float .f64) ws4) N.t_float64) :: L)) (fun J17 hJ17 => ?_) ?_
    · have h := h17
      clear h17
      refine cond_s h ?_ ?_ <;> clear h <;> intro hc h
      · refine cond_s h ?_ ?_ <;> clear h <;> intro hc h
        · refine cond_s h ?_ ?_ <;> clear h <;> intro hc h
          · refine cond_s h ?_ ?_ <;> clear h <;> intro hc h
            · refine cond_s h ?_ ?_ <;> clear h <;> intro hc h
              · refine cond_s h ?_ ?_ <;> clear h <;> intro hc h
                · refine cond_s h ?_ ?_ <;> clear h <;> intro hc h
                  · replace h := bnd h
                    obtain ⟨t20, ht20, h⟩ := h
                    obtain rfl := lenF ht20 ((Ent.sl mp0).now (fun _ h => h) hS)
                    clear ht20
                    refine cond_s h ?_ ?_ <;> clear h <;> intro hc h
                    · replace h := bnd h
                      obtain ⟨t21, ht21, h⟩ := h
                      obtain rfl := fne_s ht21
                      clear ht21
                      obtain rfl := some_inj h
                      exact hJ17 _ _ ⟨_, rfl, rfl, (hS.pick (A := [_, _, _, _, _, _, _]) [6] rfl)⟩
                    · obtain rfl := some_inj h
                      exact hJ17 _ _ ⟨_, rfl, rfl, (hS.pick (A := [_, _, _, _, _, _, _]) [6] rfl)⟩
                  · obtain rfl := some_inj h
                    exact hJ17 _ _ ⟨_, rfl, rfl, (hS.pick (A := [_, _, _, _, _, _, _]) [6] rfl)⟩
                · obtain rfl := some_inj h
                  exact hJ17 _ _ ⟨_, rfl, rfl, (hS.pick (A := [_, _, _, _, _, _, _]) [6] rfl)⟩
              · obtain rfl := some_inj h
                exact hJ17 _ _ ⟨_, rfl, rfl, (hS.pick (A := [_, _, _, _, _, _, _]) [6] rfl)⟩
            · obtain rfl := some_inj h
              exact hJ17 _ _ ⟨_, rfl, rfl, (hS.pick (A := [_, _, _, _, _, _, _]) [6] rfl)⟩
          · obtain rfl := some_inj h
            exact hJ17 _ _ ⟨_, rfl, rfl, (hS.pick (A := [_, _, _, _, _, _, _]) [6] rfl)⟩
        · obtain rfl := some_inj h
          exact hJ17 _ _ ⟨_, rfl, rfl, (hS.pick (A := [_, _, _, _, _, _, _]) [6] rfl)⟩
      · obtain rfl := some_inj h
        exact hJ17 _ _ ⟨_, rfl, rfl, (hS.pick (A := [_, _, _, _, _, _, _]) [6] rfl)⟩
    · clear h17 hS
      rintro s w ⟨t19, rfl, rfl, hS⟩
      have h := c17
      clear c17
      try dsimp only
      refine cond_s h ?_ ?_ <;> clear h <;> intro hc h
      · have h := some_inj h
        cases h
        exact hK _ (hS.pick (A := [_]) [] rfl)
      · replace h := bnd h
        obtain ⟨o18, h18, c18⟩ := h
        refine cutM_i (fun s w =>  .inl () = o18 ∧ s = (()) ∧ Ho w0 w ((sl (some ⟨r3, 0, none⟩) ((4097 : Int).toNat) ((4097 : Int).toNat) (List.map (Value.float .f64) ws4) N.t_float64) :: L)) (fun J18 hJ18 => ?_) ?_
        · have h := h18
          clear h18
          refine iter_sim (fun s w t => ∃ (t22 : Int), t22 = t ∧ s = (t22, ()) ∧ Ho w0 w ((sl (some ⟨r3, 0, none⟩) ((4097 : Int).toNat) ((4097 : Int).toNat) (List.map (Value.float .f64) ws4) N.t_float64) :: L)) ?_ h ⟨_, rfl, rfl, hS⟩
          clear h hS
          rintro s w t X q ⟨t22, rfl, rfl, hS⟩ h hX hO
          unfold T_girderlaw09_VectorLimits_b2 at h
          try dsimp only
          refine cond_s h ?_ ?_ <;> clear h <;> intro hc h
          · replace h := bnd h
            obtain ⟨t23, ht23, h⟩ := h
            refine wk_girderkit_Edge H hS  ht23 ?_; clear hS ht23; rintro z19 w rfl hS
            refine ⟨_, rfl, ?_⟩
            replace h := bnd h
            obtain ⟨t24, ht24, h⟩ := h
            refine wk_girderkit_Edge H hS  ht24 ?_; clear hS ht24; rintro z20 w rfl hS
            refine ⟨_, rfl, ?_⟩
            replace h := bnd h
            obtain ⟨t25, ht25, h⟩ := h
            refine wk_girderkit_Edge H hS  ht25 ?_; clear hS ht25; rintro z21 w rfl hS
            refine ⟨_, rfl, ?_⟩
            replace h := bnd h
            obtain ⟨t26, ht26, h⟩ := h
            obtain rfl : (List.map nf ([z19, z20, z21] : List Nat)) = t26 := some_inj ht26
            clear ht26
            refine lit_s (ks := [z19, z20, z21]) (enc := (Value.float .f64)) (m := 3) hS rfl rfl ?_; clear hS; intro r22 w hS
            replace h := bnd h
            obtain ⟨t27, ht27, h⟩ := h
            refine wk_girderkit_Edge H hS  ht27 ?_; clear hS ht27; rintro z23 w rfl hS
            refine ⟨_, rfl, ?_⟩
            replace h := bnd h
            obtain ⟨t28, ht28, h⟩ := h
            refine wk_girderkit_Edge H hS  ht28 ?_; clear hS ht28; rintro z24 w rfl hS
            refine ⟨_, rfl, ?_⟩
            replace h := bnd h
            obtain ⟨t29, ht29, h⟩ := h
            refine wk_girderkit_Edge H hS  ht29 ?_; clear hS ht29; rintro z25 w rfl hS
            refine ⟨_, rfl, ?_⟩
            replace h := bnd h
            obtain ⟨t30, ht30, h⟩ := h
            obtain rfl : (List.map nf ([z23, z24, z25] : List Nat)) = t30 := some_inj ht30
            clear ht30
            refine lit_s (ks := [z23, z24, z25]) (enc := (Value.float .f64)) (m := 3) hS rfl rfl ?_; clear hS; intro r26 w hS
            replace h := bnd h
            obtain ⟨t31, ht31, h⟩ := h
            refine wk_girderkit_Edge H hS  ht31 ?_; clear hS ht31; rintro z27 w rfl hS
            refine ⟨_, rfl, ?_⟩
            replace h := bnd h
            obtain ⟨t32, ht32, h⟩ := h
            refine wk_girderlaw09_VectorSums H hS (Ent.sl mp1) (Ent.sl mp0) ht32 ?_; clear hS ht32; rintro w hS
            refine ⟨_, rfl, ?_⟩
            refine cond_s h ?_ ?_ <;> clear h <;> intro hc h
            · replace h := bnd h
              obtain ⟨t33, ht33, h⟩ := h
              refine wk_girderlaw09_VectorTells H hS (Ent.sl mp1) (Ent.sl mp0) ht33 ?_; clear hS ht33; rintro w hS
              refine ⟨_, rfl, ?_⟩
              refine cond_s h ?_ ?_ <;> clear h <;> intro hc h
              · replace h := bnd h
                obtain ⟨t34, ht34, h⟩ := h
                refine wk_girderlaw09_VectorTells H hS (Ent.sl mp1) (Ent.sl mp1) ht34 ?_; clear hS ht34; rintro w hS
                refine ⟨_, rfl, ?_⟩
                refine cond_s h ?_ ?_ <;> clear h <;> intro hc h
                · obtain rfl := some_inj h
                  have h := congrArg some (hO _ rfl)
                  obtain rfl := some_inj h
                  have h := c18
                  have h := some_inj h
                  cases h
                  exact hK _ (hS.pick (A := [_, _, _]) [] rfl)
                · obtain rfl := some_inj h
                  exact hX _ rfl _ _ ⟨_, rfl, rfl, (hS.pick (A := [_, _, _]) [2] rfl)⟩
              · obtain rfl := some_inj h
                have h := congrArg some (hO _ rfl)
                obtain rfl := some_inj h
                have h := c18
                have h := some_inj h
                cases h
                exact hK _ (hS.pick (A := [_, _, _]) [] rfl)
            · obtain rfl := some_inj h
              have h := congrArg some (hO _ rfl)
              obtain rfl := some_inj h
              have h := c18
              have h := some_inj h
              cases h
              exact hK _ (hS.pick (A := [_, _, _]) [] rfl)
          · obtain rfl := some_inj h
            have h := congrArg some (hO _ rfl)
            obtain rfl := some_inj h
            exact hJ18 _ _ ⟨rfl, rfl, hS⟩
        · clear h18 hS
          rintro s w ⟨rfl, rfl, hS⟩
          have h := c18
          clear c18
          try dsimp only
          replace h := bnd h
          obtain ⟨t35, ht35, h⟩ := h
          refine wk_math_NaN H hS  ht35 ?_; clear hS ht35; rintro z28 w rfl hS
          refine ⟨_, rfl, ?_⟩
          replace h := bnd h
          obtain ⟨t36, ht36, h⟩ := h
          refine wk_math_Float64frombits H hS  ht36 ?_; clear hS ht36; rintro z29 w rfl hS
          refine ⟨_, rfl, ?_⟩
          replace h := bnd h
          obtain ⟨t37, ht37, h⟩ := h
          obtain rfl : (List.map nf ([z28, z29] : List Nat)) = t37 := some_inj ht37
          clear ht37
          refine lit_s (ks := [z28, z29]) (enc := (Value.float .f64)) (m := 2) hS rfl rfl ?_; clear hS; intro r30 w hS
          replace h := bnd h
          obtain ⟨t38, ht38, h⟩ := h
          obtain ⟨rfl, q310, q311, q312⟩ := subF ht38
          clear ht38
          have q313 := ((Ent.sl mp0).now (fun _ h => h) hS).hiCap q312
          refine ⟨(by first | exact q311 | omega), (by first | exact q313 | omega), ?_⟩
          replace h := bnd h
          obtain ⟨t40, ht40, h⟩ := h
          obtain rfl := lenF ht40 ((Ent.sl mp0).now (fun _ h => h) hS)
          clear ht40
          replace h := bnd h
          obtain ⟨t39, ht39, h⟩ := h
          obtain ⟨rfl, q320, q321, q322⟩ := subF ht39
          clear ht39
          refine ⟨(by first | exact q320 | omega), (by first | exact q321 | omega), ?_⟩
          refine drM_s hS ?_; clear hS; intro w hS
          replace h := bnd h
          obtain ⟨t41, ht41, h⟩ := h
          refine wk_vector_Same H hS (Ent.upto (Ent.sl mp0) q311 q312) (Ent.from (Ent.sl mp0) q320 q321) ht41 ?_; clear hS ht41; rintro w hS
          refine ⟨_, rfl, ?_⟩
          refine cond_s h ?_ ?_ <;> clear h <;> intro hc h
          · replace h := bnd h
            obtain ⟨t42, ht42, h⟩ := h
            obtain ⟨rfl, q330, q331, q332⟩ := subF ht42
            clear ht42
            have q333 := ((Ent.sl mp0).now (fun _ h => h) hS).hiCap q332
            refine ⟨(by first | exact q331 | omega), (by first | exact q333 | omega), ?_⟩
            refine drM_s hS ?_; clear hS; intro w hS
            replace h := bnd h
            obtain ⟨t43, ht43, h⟩ := h
            obtain rfl : (List.map nf ([0] : List Nat)) = t43 := some_inj ht43
            clear ht43
            refine lit_s (ks := [0]) (enc := (Value.float .f64)) (m := 1) hS rfl rfl ?_; clear hS; intro r34 w hS
            refine drM_s hS ?_; clear hS; intro w hS
            replace h := bnd h
            obtain ⟨t44, ht44, h⟩ := h
            refine wk_vector_Same H hS (Ent.upto (Ent.sl mp1) q331 q332) (Ent.sl mp0) ht44 ?_; clear hS ht44; rintro w hS
            refine ⟨_, rfl, ?_⟩
            refine cond_s h ?_ ?_ <;> clear h <;> intro hc h
            · replace h := bnd h
              obtain ⟨t46, ht46, h⟩ := h
              obtain rfl := lenF ht46 ((Ent.sl mp1).now (fun _ h => h) hS)
              clear ht46
              replace h := bnd h
              obtain ⟨t45, ht45, h⟩ := h
              obtain ⟨rfl, q350, q351, q352⟩ := subF ht45
              clear ht45
              refine ⟨(by first | exact q350 | omega), (by first | exact q351 | omega), ?_⟩
              refine drM_s hS ?_; clear hS; intro w hS
              replace h := bnd h
              obtain ⟨t47, ht47, h⟩ := h
              obtain rfl : (List.map nf ([0] : List Nat)) = t47 := some_inj ht47
              clear ht47
              refine lit_s (ks := [0]) (enc := (Value.float .f64)) (m := 1) hS rfl rfl ?_; clear hS; intro r36 w hS
              refine drM_s hS ?_; clear hS; intro w hS
              replace h := bnd h
              obtain ⟨t48, ht48, h⟩ := h
              refine wk_vector_Same H hS (Ent.sl mp0) (Ent.from (Ent.sl mp2) q350 q351) ht48 ?_; clear hS ht48; rintro w hS
              refine ⟨_, rfl, ?_⟩
              refine drM_s hS ?_; clear hS; intro w hS
              refine cond_s h ?_ ?_ <;> clear h <;> intro hc h
              · have h := some_inj h
                cases h
                exact hK _ (hS.pick (A := [_, _, _, _]) [] rfl)
              · replace h := bnd h
                obtain ⟨t49, ht49, h⟩ := h
                refine wk_vector_Scale H hS (Ent.sl mp3) ht49 ?_; clear hS ht49; rintro a37 m37 c37 ws37 w rfl hS
                refine ⟨_, _, _, rfl, ?_⟩
                replace h := bnd h
                obtain ⟨t50, ht50, h⟩ := h
                obtain rfl := lenF ht50 ((Ent.sl mp0).now (fun _ h => h) hS)
                clear ht50
                refine cond_s h ?_ ?_ <;> clear h <;> intro hc h
                · replace h := bnd h
                  obtain ⟨t51, ht51, h⟩ := h
                  refine wk_girderlaw09_awake H hS  ht51 ?_; clear hS ht51; rintro w hS
                  refine ⟨_, rfl, ?_⟩
                  have h := some_inj h
                  cases h
                  exact hK _ (hS.pick (A := [_, _, _, _, _]) [] rfl)
                · have h := some_inj h
                  cases h
                  exact hK _ (hS.pick (A := [_, _, _, _, _]) [] rfl)
            · refine drM_s hS ?_; clear hS; intro w hS
              refine drM_s hS ?_; clear hS; intro w hS
              refine drM_s hS ?_; clear hS; intro w hS
              have h := some_inj h
              cases h
              exact hK _ (hS.pick (A := [_, _, _]) [] rfl)
          · refine drM_s hS ?_; clear hS; intro w hS
            refine drM_s hS ?_; clear hS; intro w hS
            refine drM_s hS ?_; clear hS; intro w hS
            refine drM_s hS ?_; clear hS; intro w hS
            refine drM_s hS ?_; clear hS; intro w hS
            have h := some_inj h
            cases h
            exact hK _ (hS.pick (A := [_, _]) [] rfl)

theorem wk_math_normalize {N : Nums} {P : Program} (H : AllOk N P) {w0 w : World} {L : List It} {q0 : Nat} {u0 : Nat} {u1 : Int} (hS : Ho w0 w (L))  (hx : T_math_normalize (nf q0) = some (u0, u1)) {K : Value → World → Prop} (hK : ∀ (z0 : Nat) (w1 : World), nf z0 = u0 → Ho w0 w1 (L) → K (.tuple #[.float .f64 z0, .int .i64 u1]) w1) : CallsX P N.f_math_normalize #[.float .f64 q0] w K := by
  refine H.math_normalize q0 w _ ?_
  unfold S_math_normalize
  unfold T_math_normalize at hx
  have h := hx
  clear hx
  try dsimp only
  replace h := bnd h
  obtain ⟨t1, ht1, h⟩ := h
  refine wk_math_Abs H hS  ht1 ?_; clear hS ht1; rintro z1 w rfl hS
  refine ⟨_, rfl, ?_⟩
  replace h := bnd h
  obtain ⟨t2, ht2, h⟩ := h
  obtain rfl := flt_s ht2
  clear ht2
  refine cond_s h ?_ ?_ <;> clear h <;> intro hc h
  · replace h := bnd h
    obtain ⟨t3, ht3, h⟩ := h
    refine fmul_s ht3 hS ?_; clear hS ht3; rintro z2 w rfl hS
    have h := some_inj h
    cases h
    exact hK _ _ rfl hS
  · have h := some_inj h
    cases h
    exact hK _ _ rfl hS

theorem wk_math_ldexp {N : Nums} {P : Program} (H : AllOk N P) {w0 w : World} {L : List It} {q0 : Nat} {q1 : Int} {u0 : Nat} (hS : Ho w0 w (L))  (hx : T_math_ldexp (nf q0) q1 = some u0) {K : Value → World → Prop} (hK : ∀ (z0 : Nat) (w1 : World), nf z0 = u0 → Ho w0 w1 (L) → K (.float .f64 z0) w1) : CallsX P N.f_math_ldexp #[.float .f64 q0, .int .i64 q1] w K := by
  refine H.math_ldexp q0 q1 w _ ?_
  unfold S_math_ldexp
  unfold T_math_ldexp at hx
  have h := hx
  clear hx
  try dsimp only
  replace h := bnd h
  obtain ⟨t1, ht1, h⟩ := h
  obtain rfl := feq_s ht1
  clear ht1
  refine cond_s h ?_ ?_ <;> clear h <;> intro hc h
  · have h := some_inj h
    cases h
    exact hK _ _ rfl hS
  · replace h := bnd h
    obtain ⟨o1, h1, c1⟩ := h
    refine cutM_i (fun s w => ∃ (t2 : Bool), t2 = o1 ∧ s = (t2, ()) ∧ Ho w0 w (L)) (fun J1 hJ1 => ?_) ?_
    · have h := h1
      clear h1
      replace h := bnd h
      obtain ⟨t3, ht3, h⟩ := h
      refine wk_math_IsInf H hS  ht3 ?_; clear hS ht3; rintro w hS
      refine ⟨_, rfl, ?_⟩
      refine cond_s h ?_ ?_ <;> clear h <;> intro hc h
      · replace h := bnd h
        obtain ⟨t4, ht4, h⟩ := h
        refine wk_math_IsNaN H hS  ht4 ?_; clear hS ht4; rintro w hS
        refine ⟨_, rfl, ?_⟩
        obtain rfl := some_inj h
        exact hJ1 _ _ ⟨_, rfl, rfl, hS⟩
      · obtain rfl := some_inj h
        exact hJ1 _ _ ⟨_, rfl, rfl, hS⟩
    · clear h1 hS
      rintro s w ⟨t2, rfl, rfl, hS⟩
      have h := c1
      clear c1
      try dsimp only
      refine cond_s h ?_ ?_ <;> clear h <;> intro hc h
      · have h := some_inj h
        cases h
        exact hK _ _ rfl hS
      · replace h := bnd h
        obtain ⟨⟨t5, t6⟩, ho5, h⟩ := h
        refine wk_math_normalize H hS  ho5 ?_; clear hS ho5; rintro z2 w rfl hS
        refine ⟨_, _, rfl, ?_⟩
        replace h := bnd h
        obtain ⟨t7, ht7, h⟩ := h
        refine wk_math_Float64bits H hS  ht7 ?_; clear hS ht7; rintro w hS
        refine ⟨_, rfl, ?_⟩
        refine ⟨by decide, ?_⟩
        refine cond_s h ?_ ?_ <;> clear h <;> intro hc h
        · replace h := bnd h
          obtain ⟨t8, ht8, h⟩ := h
          refine wk_math_Copysign H hS  ht8 ?_; clear hS ht8; rintro z3 w rfl hS
          refine ⟨_, rfl, ?_⟩
          have h := some_inj h
          cases h
          exact hK _ _ rfl hS
        · refine cond_s h ?_ ?_ <;> clear h <;> intro hc h
          · replace h := bnd h
            obtain ⟨t9, ht9, h⟩ := h
            obtain rfl := flt_s ht9
            clear ht9
            refine cond_s h ?_ ?_ <;> clear h <;> intro hc h
            · replace h := bnd h
              obtain ⟨t10, ht10, h⟩ := h
              refine wk_math_Inf H hS  ht10 ?_; clear hS ht10; rintro z4 w rfl hS
              refine ⟨_, rfl, ?_⟩
              have h := some_inj h
              cases h
              exact hK _ _ rfl hS
            · replace h := bnd h
              obtain ⟨t11, ht11, h⟩ := h
              refine wk_math_Inf H hS  ht11 ?_; clear hS ht11; rintro z5 w rfl hS
              refine ⟨_, rfl, ?_⟩
              have h := some_inj h
              cases h
              exact hK _ _ rfl hS
          · replace h := bnd h
            obtain ⟨o7, h7, c7⟩ := h
            refine cutM_i (fun s w => ∃ (t12 : Int) (z6 : Nat), (t12, (nf z6)) = o7 ∧ s = (t12, z6, ()) ∧ Ho w0 w (L)) (fun J7 hJ7 => ?_) ?_
            · have h := h7
              clear h7
              refine cond_s h ?_ ?_ <;> clear h <;> intro hc h
              · obtain rfl := some_inj h
                exact hJ7 _ _ ⟨_, _, rfl, rfl, hS⟩
              · obtain rfl := some_inj h
                exact hJ7 _ _ ⟨_, _, rfl, rfl, hS⟩
            · clear h7 hS
              rintro s w ⟨t12, z6, rfl, rfl, hS⟩
              have h := c7
              clear c7
              try dsimp only
              refine ⟨by decide, ?_⟩
              replace h := bnd h
              obtain ⟨t14, ht14, h⟩ := h
              refine wk_math_Float64frombits H hS  ht14 ?_; clear hS ht14; rintro z8 w rfl hS
              refine ⟨_, rfl, ?_⟩
              replace h := bnd h
              obtain ⟨t15, ht15, h⟩ := h
              refine fmul_s ht15 hS ?_; clear hS ht15; rintro z9 w rfl hS
              have h := some_inj h
              cases h
              exact hK _ _ rfl hS

theorem wk_math_Ldexp {N : Nums} {P : Program} (H : AllOk N P) {w0 w : World} {L : List It} {q0 : Nat} {q1 : Int} {u0 : Nat} (hS : Ho w0 w (L))  (hx : T_math_Ldexp (nf q0) q1 = some u0) {K : Value → World → Prop} (hK : ∀ (z0 : Nat) (w1 : World), nf z0 = u0 → Ho w0 w1 (L) → K (.float .f64 z0) w1) : CallsX P N.f_math_Ldexp #[.float .f64 q0, .int .i64 q1] w K := by
  refine H.math_Ldexp q0 q1 w _ ?_
  unfold S_math_Ldexp
  unfold T_math_Ldexp at hx
  have h := hx
  clear hx
  try dsimp only
  replace h := bnd h
  obtain ⟨t1, ht1, h⟩ := h
  refine wk_math_ldexp H hS  ht1 ?_; clear hS ht1; rintro z1 w rfl hS
  refine ⟨_, rfl, ?_⟩
  have h := some_inj h
  cases h
  exact hK _ _ rfl hS

theorem wk_girderkit_Like {N : Nums} {P : Program} (H : AllOk N P) {w0 w : World} {L : List It} {q0 : Nat} {q1 : Nat} {u0 : Bool} (hS : Ho w0 w (L))  (hx : T_girderkit_Like (nf q0) (nf q1) = some u0) {K : Value → World → Prop} (hK : ∀  (w1 : World), Ho w0 w1 (L) → K (.bool u0) w1) : CallsX P N.f_girderkit_Like #[.float .f64 q0, .float .f64 q1] w K := by
  refine H.girderkit_Like q0 q1 w _ ?_
  unfold S_girderkit_Like
  unfold T_girderkit_Like at hx
  have h := hx
  clear hx
  try dsimp only
  replace h := bnd h
  obtain ⟨t1, ht1, h⟩ := h
  obtain rfl := feq_s ht1
  clear ht1
  refine cond_s h ?_ ?_ <;> clear h <;> intro hc h
  · replace h := bnd h
    obtain ⟨t2, ht2, h⟩ := h
    obtain rfl := fne_s ht2
    clear ht2
    refine cond_s h ?_ ?_ <;> clear h <;> intro hc h
    · replace h := bnd h
      obtain ⟨t3, ht3, h⟩ := h
      obtain rfl := fne_s ht3
      clear ht3
      have h := some_inj h
      cases h
      exact hK _ hS
    · have h := some_inj h
      cases h
      exact hK _ hS
  · have h := some_inj h
    cases h
    exact hK _ hS

end Go.Eng
