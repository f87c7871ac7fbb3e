/-
  Each function comes to what its function of plain Lean says, printed by a program of the session; with contracts written by hand at the head. No condition.
-/
import Derived.Test.YtkbmapgioggadaaTp
import Derived.Test.YtkbmapgioggadaaSh
set_option linter.unusedSimpArgs false
set_option linter.unnecessarySimpa false
set_option linter.unusedSectionVars false
set_option linter.unusedVariables false
set_option maxRecDepth 100000
set_option maxHeartbeats 4000000
namespace Go.Eng
open Go

section
variable {N : Nums} {P : Program} (H : AllOk N P)
include H

theorem bits_c (x : Nat) (w : World) : CallsX P N.f_math_Float64bits #[.float .f64 x] w fun v w' => v = .int .u64 x ∧ St w w' [] :=
  H.math_Float64bits x w _ ⟨rfl, St.refl _⟩

theorem isNaN_c (x : Nat) (w : World) : CallsX P N.f_math_IsNaN #[.float .f64 x] w fun v w' => v = .bool (isNaN x) ∧ St w w' [] := by
  refine H.math_IsNaN x w _ ?_
  refine ⟨?_, St.refl w⟩
  rw [feq_self]; simp

theorem vsame_c {w : World} {a b : Option Addr} {n c m d : Nat} {l k : List Nat} (ha : Reals w a n c l) (hb : Reals w b m d k) (hn : n ≤ 4294967296) :
    CallsX P N.f_vector_Same #[.slice a n c, .slice b m d] w fun v w' => v = .bool (l.map nf == k.map nf) ∧ St w w' [] := by
  refine H.vector_Same a n c b m d w _ ?_
  unfold S_vector_Same
  have la := ha.len
  have lb := hb.len
  refine cond_i (fun h => ?_) (fun h => ?_)
  · refine ⟨?_, St.refl _⟩
    congr 1
    have h' : n ≠ m := by simp at h; omega
    simp only [Bool.false_eq, beq_eq_false_iff_ne, ne_eq]
    intro e
    have := congrArg List.length e
    simp at this; omega
  · have hnm : n = m := by simp at h; omega
    subst hnm
    refine cutM_i (fun s w' => l.map nf = k.map nf ∧ St w w' []) (fun J hJ => ?_) (fun s w' ⟨h, hS⟩ => ⟨by simp [h], hS⟩)
    refine loopM_i (fun s w' => ∃ i : Nat, s.1 = (i : Int) ∧ i ≤ n ∧ (∀ j, j < i → nf (l.getD j 0) = nf (k.getD j 0)) ∧ St w w' []) (fun s => n - s.1.toNat) ⟨0, rfl, by omega, fun j h => by omega, St.refl w⟩ ?_
    rintro ⟨s, u⟩ w X ⟨i, hi, hin, hall, hS⟩ hX
    dsimp only at hi; subst hi
    refine cond_i (fun hb1 => ?_) (fun hb1 => ?_)
    · have hlt : i < n := by simpa using hb1
      have hadv : nf (l.getD i 0) = nf (k.getD i 0) → ∀ w', St _ w' [] → X (IntKind.i64.wrap ((i : Int) + 1), u) w' := fun he w' hS' => by
        refine hX _ _ ⟨i + 1, wrS hlt (by omega), by omega, fun j hj => ?_, hS'⟩ (by dsimp only; rw [wrS hlt (by omega)]; omega)
        by_cases e : j = i
        · subst e; exact he
        · exact hall j (by omega)
      have hbad : nf (l.getD i 0) ≠ nf (k.getD i 0) → (Value.bool false) = Value.bool (l.map nf == k.map nf) := fun he => by
        congr 1
        simp only [Bool.false_eq, beq_eq_false_iff_ne, ne_eq]
        intro e
        apply he
        have := congrArg (fun q => q.getD i 0) e
        simpa [List.getD_eq_getElem?_getD, show i < l.length by omega, show i < k.length by omega] using this
      obtain ⟨xa, rfl, hxa⟩ := ha.at_ i (by omega)
      obtain ⟨xb, rfl, hxb⟩ := hb.at_ i (by omega)
      dsimp only
      rw [Int.toNat_natCast, Nat.mul_one]
      refine ⟨by omega, by omega, optM_mk rfl ⟨_, hS.cell hxa, by omega, by omega, optM_mk rfl ⟨_, hS.cell hxb, ?_⟩⟩⟩
      (try simp only [List.cons_append, List.nil_append, List.append_assoc] at hS); (repeat (first | (with_reducible (refine ⟨_, hS.cell ‹_›, ?_⟩)) | (with_reducible (refine ⟨_, _, _, hS.cell ‹_›, ?_⟩)) | (with_reducible (refine ⟨hS.cell ‹_›, ?_⟩)) | ((with_reducible first | apply ldI hS | apply ldS hS | apply hldS hS | apply hldI hS | apply ldF hS | apply ldP hS | apply ldB hS | apply hldF hS); (case ha => exact rfl); (case he => (repeat (first | with_reducible exact List.mem_cons_self | with_reducible refine List.mem_cons_of_mem _ ?_))); (case hc => exact rfl)) | (guard_target = newM _ _ _ _; refine newM_i hS ?_; clear hS; intro _ w hS) | (guard_target = drM _ _; refine drM_i hS ?_; clear hS; intro w hS) | (guard_target = stM _ _ _ _; (first | refine st0 hS rfl rfl ?_ | refine st1 hS rfl rfl ?_ | refine st2 hS rfl rfl ?_ | refine st3 hS rfl rfl ?_ | refine st4 hS rfl rfl ?_ | refine st5 hS rfl rfl ?_ | refine st6 hS rfl rfl ?_ | refine st7 hS rfl rfl ?_); clear hS; intro w hS) | (guard_target = optM (some _) _; refine optM_mk rfl ?_)))
      refine (bits_c H _ _).mono ?_
      rintro _ w1 ⟨rfl, h1⟩
      replace hS := hS.next h1
      rw [List.nil_append] at hS
      refine ⟨_, rfl, hS.cell hxb, ?_⟩
      (try simp only [List.cons_append, List.nil_append, List.append_assoc] at hS); (repeat (first | (with_reducible (refine ⟨_, hS.cell ‹_›, ?_⟩)) | (with_reducible (refine ⟨_, _, _, hS.cell ‹_›, ?_⟩)) | (with_reducible (refine ⟨hS.cell ‹_›, ?_⟩)) | ((with_reducible first | apply ldI hS | apply ldS hS | apply hldS hS | apply hldI hS | apply ldF hS | apply ldP hS | apply ldB hS | apply hldF hS); (case ha => exact rfl); (case he => (repeat (first | with_reducible exact List.mem_cons_self | with_reducible refine List.mem_cons_of_mem _ ?_))); (case hc => exact rfl)) | (guard_target = newM _ _ _ _; refine newM_i hS ?_; clear hS; intro _ w hS) | (guard_target = drM _ _; refine drM_i hS ?_; clear hS; intro w hS) | (guard_target = stM _ _ _ _; (first | refine st0 hS rfl rfl ?_ | refine st1 hS rfl rfl ?_ | refine st2 hS rfl rfl ?_ | refine st3 hS rfl rfl ?_ | refine st4 hS rfl rfl ?_ | refine st5 hS rfl rfl ?_ | refine st6 hS rfl rfl ?_ | refine st7 hS rfl rfl ?_); clear hS; intro w hS) | (guard_target = optM (some _) _; refine optM_mk rfl ?_)))
      refine (bits_c H _ _).mono ?_
      rintro _ w2 ⟨rfl, h2⟩
      replace hS := hS.next h2
      rw [List.nil_append] at hS
      refine ⟨_, rfl, cond_i (fun hb2 => ?_) (fun hb2 => ?_)⟩
      · have hne : l.getD i 0 ≠ k.getD i 0 := fun e => by rw [e] at hb2; simp at hb2
        (try simp only [List.cons_append, List.nil_append, List.append_assoc] at hS); (repeat (first | (with_reducible (refine ⟨_, hS.cell ‹_›, ?_⟩)) | (with_reducible (refine ⟨_, _, _, hS.cell ‹_›, ?_⟩)) | (with_reducible (refine ⟨hS.cell ‹_›, ?_⟩)) | ((with_reducible first | apply ldI hS | apply ldS hS | apply hldS hS | apply hldI hS | apply ldF hS | apply ldP hS | apply ldB hS | apply hldF hS); (case ha => exact rfl); (case he => (repeat (first | with_reducible exact List.mem_cons_self | with_reducible refine List.mem_cons_of_mem _ ?_))); (case hc => exact rfl)) | (guard_target = newM _ _ _ _; refine newM_i hS ?_; clear hS; intro _ w hS) | (guard_target = drM _ _; refine drM_i hS ?_; clear hS; intro w hS) | (guard_target = stM _ _ _ _; (first | refine st0 hS rfl rfl ?_ | refine st1 hS rfl rfl ?_ | refine st2 hS rfl rfl ?_ | refine st3 hS rfl rfl ?_ | refine st4 hS rfl rfl ?_ | refine st5 hS rfl rfl ?_ | refine st6 hS rfl rfl ?_ | refine st7 hS rfl rfl ?_); clear hS; intro w hS) | (guard_target = optM (some _) _; refine optM_mk rfl ?_)))
        refine (isNaN_c H _ _).mono ?_
        rintro _ w3 ⟨rfl, h3⟩
        replace hS := hS.next h3
        rw [List.nil_append] at hS
        refine ⟨_, rfl, cond_i (fun hn1 => ?_) (fun hn1 => ?_)⟩
        · refine ⟨by omega, by omega, optM_mk rfl ⟨_, hS.cell hxb, ?_⟩⟩
          (try simp only [List.cons_append, List.nil_append, List.append_assoc] at hS); (repeat (first | (with_reducible (refine ⟨_, hS.cell ‹_›, ?_⟩)) | (with_reducible (refine ⟨_, _, _, hS.cell ‹_›, ?_⟩)) | (with_reducible (refine ⟨hS.cell ‹_›, ?_⟩)) | ((with_reducible first | apply ldI hS | apply ldS hS | apply hldS hS | apply hldI hS | apply ldF hS | apply ldP hS | apply ldB hS | apply hldF hS); (case ha => exact rfl); (case he => (repeat (first | with_reducible exact List.mem_cons_self | with_reducible refine List.mem_cons_of_mem _ ?_))); (case hc => exact rfl)) | (guard_target = newM _ _ _ _; refine newM_i hS ?_; clear hS; intro _ w hS) | (guard_target = drM _ _; refine drM_i hS ?_; clear hS; intro w hS) | (guard_target = stM _ _ _ _; (first | refine st0 hS rfl rfl ?_ | refine st1 hS rfl rfl ?_ | refine st2 hS rfl rfl ?_ | refine st3 hS rfl rfl ?_ | refine st4 hS rfl rfl ?_ | refine st5 hS rfl rfl ?_ | refine st6 hS rfl rfl ?_ | refine st7 hS rfl rfl ?_); clear hS; intro w hS) | (guard_target = optM (some _) _; refine optM_mk rfl ?_)))
          refine (isNaN_c H _ _).mono ?_
          rintro _ w4 ⟨rfl, h4⟩
          replace hS := hS.next h4
          rw [List.nil_append] at hS
          refine ⟨_, rfl, ?_⟩
          (try simp only [List.cons_append, List.nil_append, List.append_assoc] at hS); (repeat (first | (with_reducible (refine ⟨_, hS.cell ‹_›, ?_⟩)) | (with_reducible (refine ⟨_, _, _, hS.cell ‹_›, ?_⟩)) | (with_reducible (refine ⟨hS.cell ‹_›, ?_⟩)) | ((with_reducible first | apply ldI hS | apply ldS hS | apply hldS hS | apply hldI hS | apply ldF hS | apply ldP hS | apply ldB hS | apply hldF hS); (case ha => exact rfl); (case he => (repeat (first | with_reducible exact List.mem_cons_self | with_reducible refine List.mem_cons_of_mem _ ?_))); (case hc => exact rfl)) | (guard_target = newM _ _ _ _; refine newM_i hS ?_; clear hS; intro _ w hS) | (guard_target = drM _ _; refine drM_i hS ?_; clear hS; intro w hS) | (guard_target = stM _ _ _ _; (first | refine st0 hS rfl rfl ?_ | refine st1 hS rfl rfl ?_ | refine st2 hS rfl rfl ?_ | refine st3 hS rfl rfl ?_ | refine st4 hS rfl rfl ?_ | refine st5 hS rfl rfl ?_ | refine st6 hS rfl rfl ?_ | refine st7 hS rfl rfl ?_); clear hS; intro w hS) | (guard_target = optM (some _) _; refine optM_mk rfl ?_)))
          refine cond_i (fun hn2 => ?_) (fun hn2 => ?_)
          · simp only [Bool.not_eq_true'] at hn2
            exact ⟨hbad (fun e => by rcases nf_eq_iff.1 e with e | ⟨_, e⟩; exact hne e; rw [e] at hn2; cases hn2), hS⟩
          · simp only [Bool.not_eq_false'] at hn2
            exact hadv (nf_eq_iff.2 (.inr ⟨hn1, hn2⟩)) _ hS
        · (try simp only [List.cons_append, List.nil_append, List.append_assoc] at hS); (repeat (first | (with_reducible (refine ⟨_, hS.cell ‹_›, ?_⟩)) | (with_reducible (refine ⟨_, _, _, hS.cell ‹_›, ?_⟩)) | (with_reducible (refine ⟨hS.cell ‹_›, ?_⟩)) | ((with_reducible first | apply ldI hS | apply ldS hS | apply hldS hS | apply hldI hS | apply ldF hS | apply ldP hS | apply ldB hS | apply hldF hS); (case ha => exact rfl); (case he => (repeat (first | with_reducible exact List.mem_cons_self | with_reducible refine List.mem_cons_of_mem _ ?_))); (case hc => exact rfl)) | (guard_target = newM _ _ _ _; refine newM_i hS ?_; clear hS; intro _ w hS) | (guard_target = drM _ _; refine drM_i hS ?_; clear hS; intro w hS) | (guard_target = stM _ _ _ _; (first | refine st0 hS rfl rfl ?_ | refine st1 hS rfl rfl ?_ | refine st2 hS rfl rfl ?_ | refine st3 hS rfl rfl ?_ | refine st4 hS rfl rfl ?_ | refine st5 hS rfl rfl ?_ | refine st6 hS rfl rfl ?_ | refine st7 hS rfl rfl ?_); clear hS; intro w hS) | (guard_target = optM (some _) _; refine optM_mk rfl ?_)))
          exact ⟨hbad (fun e => by rcases nf_eq_iff.1 e with e | ⟨e, _⟩; exact hne e; rw [e] at hn1; cases hn1), hS⟩
      · have he : l.getD i 0 = k.getD i 0 := by
          have h5 : (((l.getD i 0 : Nat) : Int) != ((k.getD i 0 : Nat) : Int)) = false := hb2
          have h6 : ((l.getD i 0 : Nat) : Int) = ((k.getD i 0 : Nat) : Int) := by
            rcases Decidable.em (((l.getD i 0 : Nat) : Int) = ((k.getD i 0 : Nat) : Int)) with h | h
            · exact h
            · rw [bne_iff_ne.2 h] at h5; cases h5
          exact Int.ofNat.inj h6
        (try simp only [List.cons_append, List.nil_append, List.append_assoc] at hS); (repeat (first | (with_reducible (refine ⟨_, hS.cell ‹_›, ?_⟩)) | (with_reducible (refine ⟨_, _, _, hS.cell ‹_›, ?_⟩)) | (with_reducible (refine ⟨hS.cell ‹_›, ?_⟩)) | ((with_reducible first | apply ldI hS | apply ldS hS | apply hldS hS | apply hldI hS | apply ldF hS | apply ldP hS | apply ldB hS | apply hldF hS); (case ha => exact rfl); (case he => (repeat (first | with_reducible exact List.mem_cons_self | with_reducible refine List.mem_cons_of_mem _ ?_))); (case hc => exact rfl)) | (guard_target = newM _ _ _ _; refine newM_i hS ?_; clear hS; intro _ w hS) | (guard_target = drM _ _; refine drM_i hS ?_; clear hS; intro w hS) | (guard_target = stM _ _ _ _; (first | refine st0 hS rfl rfl ?_ | refine st1 hS rfl rfl ?_ | refine st2 hS rfl rfl ?_ | refine st3 hS rfl rfl ?_ | refine st4 hS rfl rfl ?_ | refine st5 hS rfl rfl ?_ | refine st6 hS rfl rfl ?_ | refine st7 hS rfl rfl ?_); clear hS; intro w hS) | (guard_target = optM (some _) _; refine optM_mk rfl ?_)))
        exact hadv (by rw [he]) _ hS
    · have hge : n ≤ i := by simpa using hb1
      refine hJ _ _ ⟨?_, hS⟩
      apply List.ext_getElem
      · simp; omega
      · intro j h1 h2
        simp at h1 h2
        have := hall j (by omega)
        simpa [List.getD_eq_getElem?_getD, h1, h2] using this

theorem abs_c (x : Nat) (w : World) : CallsX P N.f_math_Abs #[.float .f64 x] w fun v w' => v = .float .f64 (magF x) ∧ St w w' [] := by
  refine H.math_Abs x w _ ?_
  unfold S_math_Abs
  refine (bits_c H x w).mono ?_
  rintro _ w1 ⟨rfl, h1⟩
  refine ⟨_, rfl, ?_⟩
  refine H.math_Float64frombits _ w1 _ ?_
  rw [abs_bits]
  exact ⟨_, rfl, rfl, h1⟩

theorem fields_c (x : Nat) (w : World) : CallsX P N.f_girderref01_fields #[.float .f64 x] w fun v w' => ∃ b, v = .tuple #[.bool b, .int .i64 (expF x), .int .u64 (fracF x)] ∧ St w w' [] := by
  refine H.girderref01_fields x w _ ?_
  unfold S_girderref01_fields
  refine (bits_c H x w).mono ?_
  rintro _ w1 ⟨rfl, h1⟩
  have e1 : ((x : Int).tmod 4503599627370496) = (fracF x : Int) := by unfold fracF; rw [Int.tmod_eq_emod_of_nonneg (by omega)]; omega
  have e2 : IntKind.i64.wrap ((IntKind.u64.wrap ((x : Int).tdiv 4503599627370496)).tmod 2048) = (expF x : Int) := by
    have h2 : (x : Int).tdiv 4503599627370496 = ((x / 4503599627370496 : Nat) : Int) := by rw [Int.tdiv_eq_ediv_of_nonneg (by omega)]; omega
    have h3 : IntKind.u64.wrap ((x / 4503599627370496 : Nat) : Int) = ((x / 4503599627370496 % 18446744073709551616 : Nat) : Int) := by
      simp only [IntKind.wrap, IntKind.bits, IntKind.signed]; simp
    rw [h2, h3, Int.tmod_eq_emod_of_nonneg (by omega)]
    have h4 : ((x / 4503599627370496 % 18446744073709551616 : Nat) : Int) % 2048 = ((expF x : Nat) : Int) := by unfold expF; omega
    rw [h4, wrN (by unfold expF; omega)]
  refine ⟨_, rfl, by omega, by omega, by omega, by omega, ?_⟩
  rw [e1, e2]
  exact ⟨_, rfl, h1⟩

theorem kind_c (x : Nat) (w : World) : CallsX P N.f_girderref01_Kind #[.float .f64 x] w fun v w' => v = .int .i64 (if expF x = 2047 then (if fracF x = 0 then 3 else 4) else if expF x = 0 then (if fracF x = 0 then 0 else 1) else 2) ∧ St w w' [] := by
  refine H.girderref01_Kind x w _ ?_
  unfold S_girderref01_Kind
  refine (fields_c H x w).mono ?_
  rintro _ w1 ⟨b, rfl, h1⟩
  refine ⟨_, _, _, rfl, ?_⟩
  by_cases h2 : expF x = 2047
  · by_cases h3 : fracF x = 0
    · simp [h2, h3, h1]
    · simp [h2, h3, h1, bne]
  · have e2 : (((expF x : Nat) : Int) == 2047) = false := by simp; omega
    by_cases h4 : expF x = 0
    · by_cases h3 : fracF x = 0
      · simp [h4, h3, h1]
      · simp [h4, h3, h1, bne]
    · have : 0 < expF x := by omega
      simp [h2, h4, h1, e2, this]

theorem nan_c (x : Nat) (w : World) : CallsX P N.f_girderref01_Nan #[.float .f64 x] w fun v w' => v = .bool (isNaN x) ∧ St w w' [] := by
  refine H.girderref01_Nan x w _ ?_
  unfold S_girderref01_Nan
  refine (kind_c H x w).mono ?_
  rintro _ w1 ⟨rfl, h1⟩
  refine ⟨_, rfl, ?_, h1⟩
  rw [isNaN_fields]
  by_cases h2 : expF x = 2047 <;> by_cases h3 : fracF x = 0 <;> by_cases h4 : expF x = 0 <;> simp [h2, h3, h4]

theorem rSameF_c (x y : Nat) (w : World) : CallsX P N.f_girderref01_Same #[.float .f64 x, .float .f64 y] w fun v w' => v = .bool (nf x == nf y) ∧ St w w' [] := by
  refine H.girderref01_Same x y w _ ?_
  unfold S_girderref01_Same
  refine (bits_c H x w).mono ?_
  rintro _ w1 ⟨rfl, h1⟩
  refine ⟨_, rfl, ?_⟩
  refine (bits_c H y w1).mono ?_
  rintro _ w2 ⟨rfl, h2⟩
  refine ⟨_, rfl, ?_⟩
  have hS := h1.next h2
  have hxy : (((x : Nat) : Int) == ((y : Nat) : Int)) = (x == y) := by rw [Bool.eq_iff_iff]; simp; omega
  rw [same_bits, hxy]
  refine cond_i (fun hb => ?_) (fun hb => ?_)
  · refine (nan_c H x w2).mono ?_
    rintro _ w3 ⟨rfl, h3⟩
    have hS := hS.next h3
    refine ⟨_, rfl, cond_i (fun hn => ?_) (fun hn => ?_)⟩
    · refine (nan_c H y w3).mono ?_
      rintro _ w4 ⟨rfl, h4⟩
      refine ⟨_, rfl, ?_, hS.next h4⟩
      simp only [Bool.not_eq_true'] at hb
      simp [hb, hn]
    · simp only [Bool.not_eq_true'] at hb
      exact ⟨by simp [hb, hn], hS⟩
  · simp only [Bool.not_eq_false'] at hb
    exact ⟨by simp [hb], hS⟩

theorem sameFloat_c (x y : Nat) (w : World) : CallsX P N.f_girderkit_SameFloat #[.float .f64 x, .float .f64 y] w fun v w' => v = .bool (nf x == nf y) ∧ St w w' [] := by
  refine H.girderkit_SameFloat x y w _ ?_
  unfold S_girderkit_SameFloat
  refine (bits_c H x w).mono ?_
  rintro _ w1 ⟨rfl, h1⟩
  refine ⟨_, rfl, ?_⟩
  refine (bits_c H y w1).mono ?_
  rintro _ w2 ⟨rfl, h2⟩
  refine ⟨_, rfl, ?_⟩
  have hS := h1.next h2
  have hxy : (((x : Nat) : Int) == ((y : Nat) : Int)) = (x == y) := by rw [Bool.eq_iff_iff]; simp; omega
  rw [same_bits, hxy, feq_self, feq_self]
  cases x == y <;> cases isNaN x <;> exact ⟨by simp, hS⟩

theorem copysign_c (x y : Nat) (w : World) : CallsX P N.f_math_Copysign #[.float .f64 x, .float .f64 y] w fun v w' => v = .float .f64 ((if negF y then 9223372036854775808 else 0) + magF x) ∧ St w w' [] := by
  refine H.math_Copysign x y w _ ?_
  unfold S_math_Copysign
  refine (bits_c H x w).mono ?_
  rintro _ w1 ⟨rfl, h1⟩
  refine ⟨_, rfl, ?_⟩
  refine (bits_c H y w1).mono ?_
  rintro _ w2 ⟨rfl, h2⟩
  refine ⟨_, rfl, ?_⟩
  refine H.math_Float64frombits _ w2 _ ?_
  rw [copy_bits]
  exact ⟨_, rfl, rfl, h1.next h2⟩

end

theorem wk_matrix_fits {N : Nums} {P : Program} (H : AllOk N P) {w0 w : World} {L : List It} {q0 : Int} {u0 : Bool} (hS : Ho w0 w (L))  (hx : T_matrix_fits q0 = some u0) {K : Value → World → Prop} (hK : ∀  (w1 : World), Ho w0 w1 (L) → K (.bool u0) w1) : CallsX P N.f_matrix_fits #[.int .i64 q0] w K := by
  refine H.matrix_fits q0 w _ ?_
  unfold S_matrix_fits
  unfold T_matrix_fits at hx
  have h := hx
  clear hx
  try dsimp only
  refine cond_s h ?_ ?_ <;> clear h <;> intro hc h
  · have h := some_inj h
    cases h
    exact hK _ hS
  · have h := some_inj h
    cases h
    exact hK _ hS

theorem wk_matrix_Right {N : Nums} {P : Program} (H : AllOk N P) {w0 w : World} {L : List It} {q0_0 : Int} {q0_1 : Int} {q0_2 : Option Addr} {q0_2l q0_2c : Nat} {ws0_2 : List Nat} {u0 : Bool} (hS : Ho w0 w (L)) (hq0_2 : Ent L (rdA (List.map (Value.float .f64) ws0_2) q0_2 q0_2l q0_2c)) (hx : T_matrix_Right q0_0 q0_1 (List.map nf ws0_2) = some u0) {K : Value → World → Prop} (hK : ∀  (w1 : World), Ho w0 w1 (L) → K (.bool u0) w1) : CallsX P N.f_matrix_Right #[.agg #[.int .i64 q0_0, .int .i64 q0_1, .slice q0_2 q0_2l q0_2c]] w K := by
  refine H.matrix_Right q0_0 q0_1 q0_2 q0_2l q0_2c w _ ?_
  unfold S_matrix_Right
  unfold T_matrix_Right at hx
  have h := hx
  clear hx
  try dsimp only
  refine newM_s hS ?_; clear hS; intro r1 w hS
  refine ⟨_, (hS.cel mp0 rfl), ?_⟩
  replace h := bnd h
  obtain ⟨t1, ht1, h⟩ := h
  refine wk_matrix_fits H hS  ht1 ?_; clear hS ht1; rintro w hS
  refine ⟨_, rfl, ?_⟩
  refine cond_s h ?_ ?_ <;> clear h <;> intro hc h
  · refine ⟨_, (hS.cel mp0 rfl), ?_⟩
    replace h := bnd h
    obtain ⟨t2, ht2, h⟩ := h
    refine wk_matrix_fits H hS  ht2 ?_; clear hS ht2; rintro w hS
    refine ⟨_, rfl, ?_⟩
    refine cond_s h ?_ ?_ <;> clear h <;> intro hc h
    · refine ⟨_, _, _, (hS.cel mp0 rfl), ?_⟩
      replace h := bnd h
      obtain ⟨t3, ht3, h⟩ := h
      obtain rfl := lenF ht3 ((hq0_2.mono tl1).now (fun _ h => h) hS)
      clear ht3
      refine ⟨_, (hS.cel mp0 rfl), ?_⟩
      refine ⟨_, (hS.cel mp0 rfl), ?_⟩
      have h := some_inj h
      cases h
      exact hK _ (hS.pick (A := [_]) [] rfl)
    · have h := some_inj h
      cases h
      exact hK _ (hS.pick (A := [_]) [] rfl)
  · have h := some_inj h
    cases h
    exact hK _ (hS.pick (A := [_]) [] rfl)

theorem wk_matrix_Transpose_1 {N : Nums} {P : Program} (H : AllOk N P) {w0 w : World} {L : List It} {q0 : Int} {q1 : Int} {r_2 : Nat} {q2_0 : Int} {q2_1 : Int} {q2_2 : Option Addr} {q2_2l q2_2c : Nat} {ws2_2 : List Nat} {u0 : Nat} (hS : Ho w0 w (L)) (eq2 : Ent L (cl r_2 [.int .i64 q2_0, .int .i64 q2_1, .slice q2_2 q2_2l q2_2c] N.t_Matrix).A) (hq2_2 : Ent L (rdA (List.map (Value.float .f64) ws2_2) q2_2 q2_2l q2_2c)) (hx : T_matrix_Transpose_1 q0 q1 q2_0 q2_1 (List.map nf ws2_2) = some u0) {K : Value → World → Prop} (hK : ∀ (z0 : Nat) (w1 : World), nf z0 = u0 → Ho w0 w1 (L) → K (.float .f64 z0) w1) : CallsX P N.f_matrix_Transpose_1 #[.int .i64 q0, .int .i64 q1, .pointer (some ⟨r_2, 0, none⟩)] w K := by
  refine H.matrix_Transpose_1 q0 q1 (some ⟨r_2, 0, none⟩) w _ ?_
  unfold S_matrix_Transpose_1
  unfold T_matrix_Transpose_1 at hx
  have h := hx
  clear hx
  try dsimp only
  refine optM_s ?_
  refine ⟨_, _, _, (eq2.cel (fun _ h => h) hS rfl), ?_⟩
  refine optM_s ?_
  refine ⟨_, (eq2.cel (fun _ h => h) hS rfl), ?_⟩
  replace h := bnd h
  obtain ⟨t1, ht1, h⟩ := h
  obtain ⟨z1, rfl, q2x, q2l, q2r⟩ := atF ht1
  clear ht1
  refine idx_s (hq2_2.now (fun _ h => h) hS) q2x q2l q2r ?_; intro b3 hb3
  refine ⟨_, rd_get (hq2_2.now (fun _ h => h) hS) hb3 q2x, ?_⟩
  have h := some_inj h
  cases h
  exact hK _ _ rfl hS

theorem wk_matrix_laid {N : Nums} {P : Program} (H : AllOk N P) {w0 w : World} {L : List It} {q0 : Int} {q1 : Int} {q2 : Value} {f2 : Int → Int → Option Nat} {u0 : Int} {u1 : Int} {u2 : List Nat} (hS : Ho w0 w (L)) (hf2 : ∀ (v0 : Int) (v1 : Int) (w : World) (L1 : List It) (r1 : Nat) (K : Value → World → Prop), (∀ e, e ∈ L → e ∈ L1) → f2 v0 v1 = some r1 → Ho w0 w L1 → (∀ (z : Nat) (w1 : World), nf z = r1 → Ho w0 w1 L1 → K (.float .f64 z) w1) → fnM q2 fun g gp gq => CallsX P g (gp.toList ++ (([.int .i64 v0, .int .i64 v1] : List Value) ++ gq.toList)).toArray w K) (hx : T_matrix_laid q0 q1 f2 = some (u0, u1, u2)) {K : Value → World → Prop} (hK : ∀ (a2 : Option Addr) (n2 c2 : Nat) (rws2 : List Nat) (w1 : World), List.map nf rws2 = u2 → Ho w0 w1 ((sl a2 n2 c2 (List.map (Value.float .f64) rws2) N.t_float64) :: L) → K (.agg #[.int .i64 u0, .int .i64 u1, .slice a2 n2 c2]) w1) : CallsX P N.f_matrix_laid #[.int .i64 q0, .int .i64 q1, q2] w K := by
  refine H.matrix_laid q0 q1 q2 w _ ?_
  unfold S_matrix_laid
  unfold T_matrix_laid at hx
  have h := hx
  clear hx
  try dsimp only
  refine newM_s hS ?_; clear hS; intro r1 w hS
  replace h := bnd h
  obtain ⟨t1, ht1, h⟩ := h
  obtain ⟨rfl, kt1⟩ := mkF ht1
  clear ht1
  refine mk_s (enc := (Value.float .f64)) hS kt1 rfl ?_; clear hS kt1; intro r2 w hS
  refine newM_s hS ?_; clear hS; intro r3 w hS
  refine stc_s hS rfl rfl ?_; clear hS; intro w hS
  refine stc_s hS rfl rfl ?_; clear hS; intro w hS
  refine stc_s hS rfl rfl ?_; clear hS; intro w hS
  replace h := bnd h
  obtain ⟨o5, h5, c5⟩ := h
  refine cutM_i (fun s w => ∃ (ws4 : List Nat), (List.map nf ws4) = o5 ∧ s = (()) ∧ Ho w0 w ((cl r3 [.int .i64 q0, .int .i64 q1, .slice (some ⟨r2, 0, none⟩) (((IntKind.i64.wrap (q0 * q1))).toNat) (((IntKind.i64.wrap (q0 * q1))).toNat)] N.t_Matrix) :: (sl (some ⟨r2, 0, none⟩) (((IntKind.i64.wrap (q0 * q1))).toNat) (((IntKind.i64.wrap (q0 * q1))).toNat) (List.map (Value.float .f64) ws4) N.t_float64) :: (cl r1 [.int .i64 0, .int .i64 0, .slice none 0 0] N.t_Matrix) :: L)) (fun J5 hJ5 => ?_) ?_
  · have h := h5
    clear h5
    refine iter_sim (fun s w t => ∃ (t3 : Int) (ws6 : List Nat), (t3, (List.map nf ws6)) = t ∧ s = (t3, ()) ∧ Ho w0 w ((cl r3 [.int .i64 q0, .int .i64 q1, .slice (some ⟨r2, 0, none⟩) (((IntKind.i64.wrap (q0 * q1))).toNat) (((IntKind.i64.wrap (q0 * q1))).toNat)] N.t_Matrix) :: (sl (some ⟨r2, 0, none⟩) (((IntKind.i64.wrap (q0 * q1))).toNat) (((IntKind.i64.wrap (q0 * q1))).toNat) (List.map (Value.float .f64) ws6) N.t_float64) :: (cl r1 [.int .i64 0, .int .i64 0, .slice none 0 0] N.t_Matrix) :: L)) ?_ h ⟨_, _, rfl, rfl, hS⟩
    clear h hS
    rintro s w t X q ⟨t3, ws6, rfl, rfl, hS⟩ h hX hO
    unfold T_matrix_laid_b7 at h
    try dsimp only
    refine cond_s h ?_ ?_ <;> clear h <;> intro hc h
    · replace h := bnd h
      obtain ⟨o8, h8, c8⟩ := h
      refine cutM_i (fun s w => ∃ (ws7 : List Nat), (List.map nf ws7) = o8 ∧ s = (()) ∧ Ho w0 w ((cl r3 [.int .i64 q0, .int .i64 q1, .slice (some ⟨r2, 0, none⟩) (((IntKind.i64.wrap (q0 * q1))).toNat) (((IntKind.i64.wrap (q0 * q1))).toNat)] N.t_Matrix) :: (sl (some ⟨r2, 0, none⟩) (((IntKind.i64.wrap (q0 * q1))).toNat) (((IntKind.i64.wrap (q0 * q1))).toNat) (List.map (Value.float .f64) ws7) N.t_float64) :: (cl r1 [.int .i64 0, .int .i64 0, .slice none 0 0] N.t_Matrix) :: L)) (fun J8 hJ8 => ?_) ?_
      · have h := h8
        clear h8
        refine iter_sim (fun s w t => ∃ (t6 : Int) (ws9 : List Nat), (t6, (List.map nf ws9)) = t ∧ s = (t6, ()) ∧ Ho w0 w ((cl r3 [.int .i64 q0, .int .i64 q1, .slice (some ⟨r2, 0, none⟩) (((IntKind.i64.wrap (q0 * q1))).toNat) (((IntKind.i64.wrap (q0 * q1))).toNat)] N.t_Matrix) :: (sl (some ⟨r2, 0, none⟩) (((IntKind.i64.wrap (q0 * q1))).toNat) (((IntKind.i64.wrap (q0 * q1))).toNat) (List.map (Value.float .f64) ws9) N.t_float64) :: (cl r1 [.int .i64 0, .int .i64 0, .slice none 0 0] N.t_Matrix) :: L)) ?_ h ⟨_, _, rfl, rfl, hS⟩
        clear h hS
        rintro s w t X q ⟨t6, ws9, rfl, rfl, hS⟩ h hX hO
        unfold T_matrix_laid_b9 at h
        try dsimp only
        refine cond_s h ?_ ?_ <;> clear h <;> intro hc h
        · refine ⟨_, _, _, (hS.cel mp0 rfl), ?_⟩
          refine drM_s hS ?_; clear hS; intro w hS
          replace h := bnd h
          obtain ⟨t8, ht8, h⟩ := h
          refine hf2 _ _ _ _ _ _ tl3 ht8 hS ?_; clear hS ht8; rintro z10 w rfl hS
          refine ⟨_, rfl, ?_⟩
          refine ⟨(hS.cel mp0 rfl), ?_⟩
          replace h := bnd h
          obtain ⟨t9, ht9, h⟩ := h
          obtain ⟨z11, rfl, q12x, q12l, q12r⟩ := atF ht9
          clear ht9
          refine idx_s ((Ent.sl mp1).now (fun _ h => h) hS) q12x q12l q12r ?_; intro b13 hb13
          refine drM_s hS ?_; clear hS; intro w hS
          replace hS := ro1 hS
          replace h := bnd h
          obtain ⟨t10, ht10, h⟩ := h
          obtain rfl := setF ht10
          clear ht10
          refine sto_s hS hb13 q12r ?_; clear hS; intro w hS
          refine drM_s hS ?_; clear hS; intro w hS
          obtain rfl := some_inj h
          exact hX _ rfl _ _ ⟨_, _, rfl, rfl, (hS.pick (A := [_, _, _]) [1, 0, 0] rfl)⟩
        · obtain rfl := some_inj h
          have h := congrArg some (hO _ rfl)
          obtain rfl := some_inj h
          exact hJ8 _ _ ⟨_, rfl, rfl, hS⟩
      · clear h8 hS
        rintro s w ⟨ws7, rfl, rfl, hS⟩
        have h := c8
        clear c8
        try dsimp only
        obtain rfl := some_inj h
        exact hX _ rfl _ _ ⟨_, _, rfl, rfl, hS⟩
    · obtain rfl := some_inj h
      have h := congrArg some (hO _ rfl)
      obtain rfl := some_inj h
      exact hJ5 _ _ ⟨_, rfl, rfl, hS⟩
  · clear h5 hS
    rintro s w ⟨ws4, rfl, rfl, hS⟩
    have h := c5
    clear c5
    try dsimp only
    refine ⟨_, (hS.cel mp0 rfl), ?_⟩
    refine ⟨_, (hS.cel mp0 rfl), ?_⟩
    refine ⟨_, _, _, (hS.cel mp0 rfl), ?_⟩
    replace hS := ro2 hS
    refine stc_s hS rfl rfl ?_; clear hS; intro w hS
    refine stc_s hS rfl rfl ?_; clear hS; intro w hS
    refine stc_s hS rfl rfl ?_; clear hS; intro w hS
    refine ⟨_, (hS.cel mp0 rfl), ?_⟩
    refine ⟨_, (hS.cel mp0 rfl), ?_⟩
    refine ⟨_, _, _, (hS.cel mp0 rfl), ?_⟩
    have h := some_inj h
    cases h
    exact hK _ _ _ _ _ rfl (hS.pick (A := [_, _, _]) [2] rfl)

theorem wk_matrix_Transpose {N : Nums} {P : Program} (H : AllOk N P) {w0 w : World} {L : List It} {q0_0 : Int} {q0_1 : Int} {q0_2 : Option Addr} {q0_2l q0_2c : Nat} {ws0_2 : List Nat} {u0 : Int} {u1 : Int} {u2 : List Nat} {u3 : Int} (hS : Ho w0 w (L)) (hq0_2 : Ent L (rdA (List.map (Value.float .f64) ws0_2) q0_2 q0_2l q0_2c)) (hx : T_matrix_Transpose q0_0 q0_1 (List.map nf ws0_2) = some (u0, u1, u2, u3)) {K : Value → World → Prop} (hK : ∀ (a2 : Option Addr) (n2 c2 : Nat) (rws2 : List Nat) (w1 : World), List.map nf rws2 = u2 → Ho w0 w1 ((sl a2 n2 c2 (List.map (Value.float .f64) rws2) N.t_float64) :: L) → K (.tuple #[.agg #[.int .i64 u0, .int .i64 u1, .slice a2 n2 c2], .int .i64 u3]) w1) : CallsX P N.f_matrix_Transpose #[.agg #[.int .i64 q0_0, .int .i64 q0_1, .slice q0_2 q0_2l q0_2c]] w K := by
  refine H.matrix_Transpose q0_0 q0_1 q0_2 q0_2l q0_2c w _ ?_
  unfold S_matrix_Transpose
  unfold T_matrix_Transpose at hx
  have h := hx
  clear hx
  try dsimp only
  refine newM_s hS ?_; clear hS; intro r1 w hS
  refine newM_s hS ?_; clear hS; intro r2 w hS
  refine ⟨_, (hS.cel mp1 rfl), ?_⟩
  refine ⟨_, (hS.cel mp1 rfl), ?_⟩
  refine ⟨_, _, _, (hS.cel mp1 rfl), ?_⟩
  replace h := bnd h
  obtain ⟨t1, ht1, h⟩ := h
  refine wk_matrix_Right H hS (hq0_2.mono tl2) ht1 ?_; clear hS ht1; rintro w hS
  refine ⟨_, rfl, ?_⟩
  refine cond_s h ?_ ?_ <;> clear h <;> intro hc h
  · refine stc_s hS rfl rfl ?_; clear hS; intro w hS
    refine stc_s hS rfl rfl ?_; clear hS; intro w hS
    refine stc_s hS rfl rfl ?_; clear hS; intro w hS
    refine ⟨_, (hS.cel mp0 rfl), ?_⟩
    refine ⟨_, (hS.cel mp0 rfl), ?_⟩
    refine ⟨_, _, _, (hS.cel mp0 rfl), ?_⟩
    replace hS := hS.none (α := Nat) (enc := (Value.float .f64)) (t := N.t_float64)
    have h := some_inj h
    cases h
    exact hK _ _ _ _ _ rfl (hS.pick (A := [_, _, _]) [0] rfl)
  · refine ⟨_, (hS.cel mp1 rfl), ?_⟩
    refine ⟨_, (hS.cel mp1 rfl), ?_⟩
    replace h := bnd h
    obtain ⟨⟨t2, t3, t4⟩, ho2, h⟩ := h
    refine wk_matrix_laid H hS (by intro v0 v1 w L1 r1 K hL hx hS hK; exact wk_matrix_Transpose_1 H hS ((Ent.of mp1).mono hL) ((hq0_2.mono tl2).mono hL) hx hK) ho2 ?_; clear hS ho2; rintro a3 m3 c3 ws3 w rfl hS
    refine ⟨_, _, _, _, _, rfl, ?_⟩
    replace hS := ro1 hS
    refine stc_s hS rfl rfl ?_; clear hS; intro w hS
    refine stc_s hS rfl rfl ?_; clear hS; intro w hS
    refine stc_s hS rfl rfl ?_; clear hS; intro w hS
    refine ⟨_, (hS.cel mp0 rfl), ?_⟩
    refine ⟨_, (hS.cel mp0 rfl), ?_⟩
    refine ⟨_, _, _, (hS.cel mp0 rfl), ?_⟩
    have h := some_inj h
    cases h
    exact hK _ _ _ _ _ rfl (hS.pick (A := [_, _, _]) [1] rfl)

theorem wk_math_Float64bits {N : Nums} {P : Program} (H : AllOk N P) {w0 w : World} {L : List It} {q0 : Nat} {u0 : Int} (hS : Ho w0 w (L))  (hx : T_math_Float64bits (nf q0) = some u0) {K : Value → World → Prop} (hK : ∀  (w1 : World), Ho w0 w1 (L) → K (.int .u64 u0) w1) : CallsX P N.f_math_Float64bits #[.float .f64 q0] w K := by
  unfold T_math_Float64bits at hx
  have hn : isNaN q0 = false := by
    cases e : isNaN q0 with
    | false => rfl
    | true => rw [isNaN_nf, e] at hx; cases hx
  rw [isNaN_nf, hn, nf_of_not hn] at hx
  have hx := some_inj hx
  subst hx
  exact H.math_Float64bits q0 w _ (hK _ hS)

theorem wk_math_IsNaN {N : Nums} {P : Program} (H : AllOk N P) {w0 w : World} {L : List It} {q0 : Nat} {u0 : Bool} (hS : Ho w0 w (L))  (hx : T_math_IsNaN (nf q0) = some u0) {K : Value → World → Prop} (hK : ∀  (w1 : World), Ho w0 w1 (L) → K (.bool u0) w1) : CallsX P N.f_math_IsNaN #[.float .f64 q0] w K := by
  refine H.math_IsNaN q0 w _ ?_
  unfold S_math_IsNaN
  unfold T_math_IsNaN at hx
  have h := hx
  clear hx
  try dsimp only
  replace h := bnd h
  obtain ⟨t1, ht1, h⟩ := h
  obtain rfl := fne_s ht1
  clear ht1
  have h := some_inj h
  cases h
  exact hK _ hS

theorem wk_vector_Same {N : Nums} {P : Program} (H : AllOk N P) {w0 w : World} {L : List It} {q0 : Option Addr} {q0l q0c : Nat} {ws0 : List Nat} {q1 : Option Addr} {q1l q1c : Nat} {ws1 : List Nat} {u0 : Bool} (hS : Ho w0 w (L)) (hq0 : Ent L (rdA (List.map (Value.float .f64) ws0) q0 q0l q0c)) (hq1 : Ent L (rdA (List.map (Value.float .f64) ws1) q1 q1l q1c)) (hx : T_vector_Same (List.map nf ws0) (List.map nf ws1) = some u0) {K : Value → World → Prop} (hK : ∀  (w1 : World), Ho w0 w1 (L) → K (.bool u0) w1) : CallsX P N.f_vector_Same #[.slice q0 q0l q0c, .slice q1 q1l q1c] w K := by
  unfold T_vector_Same at hx
  have hd : (List.map nf ws0).length ≤ 4294967296 := by
    rcases Nat.lt_or_ge 4294967296 (List.map nf ws0).length with h | h
    · rw [decide_eq_false (by omega)] at hx; cases hx
    · exact h
  rw [decide_eq_true hd] at hx
  have hx := some_inj hx
  subst hx
  have r0 := (hq0.now (fun _ h => h) hS).reals
  refine (vsame_c H r0 (hq1.now (fun _ h => h) hS).reals (by have := r0.len; simp at hd; omega)).mono ?_
  rintro _ w1 ⟨rfl, h1⟩
  exact hK _ (hS.next h1)

theorem wk_matrix_Same {N : Nums} {P : Program} (H : AllOk N P) {w0 w : World} {L : List It} {q0_0 : Int} {q0_1 : Int} {q0_2 : Option Addr} {q0_2l q0_2c : Nat} {ws0_2 : List Nat} {q1_0 : Int} {q1_1 : Int} {q1_2 : Option Addr} {q1_2l q1_2c : Nat} {ws1_2 : List Nat} {u0 : Bool} (hS : Ho w0 w (L)) (hq0_2 : Ent L (rdA (List.map (Value.float .f64) ws0_2) q0_2 q0_2l q0_2c)) (hq1_2 : Ent L (rdA (List.map (Value.float .f64) ws1_2) q1_2 q1_2l q1_2c)) (hx : T_matrix_Same q0_0 q0_1 (List.map nf ws0_2) q1_0 q1_1 (List.map nf ws1_2) = some u0) {K : Value → World → Prop} (hK : ∀  (w1 : World), Ho w0 w1 (L) → K (.bool u0) w1) : CallsX P N.f_matrix_Same #[.agg #[.int .i64 q0_0, .int .i64 q0_1, .slice q0_2 q0_2l q0_2c], .agg #[.int .i64 q1_0, .int .i64 q1_1, .slice q1_2 q1_2l q1_2c]] w K := by
  refine H.matrix_Same q0_0 q0_1 q0_2 q0_2l q0_2c q1_0 q1_1 q1_2 q1_2l q1_2c w _ ?_
  unfold S_matrix_Same
  unfold T_matrix_Same at hx
  have h := hx
  clear hx
  try dsimp only
  refine newM_s hS ?_; clear hS; intro r1 w hS
  refine newM_s hS ?_; clear hS; intro r2 w hS
  refine ⟨_, (hS.cel mp1 rfl), ?_⟩
  refine ⟨_, (hS.cel mp0 rfl), ?_⟩
  refine cond_s h ?_ ?_ <;> clear h <;> intro hc h
  · refine ⟨_, (hS.cel mp1 rfl), ?_⟩
    refine ⟨_, (hS.cel mp0 rfl), ?_⟩
    refine cond_s h ?_ ?_ <;> clear h <;> intro hc h
    · refine ⟨_, _, _, (hS.cel mp1 rfl), ?_⟩
      refine ⟨_, _, _, (hS.cel mp0 rfl), ?_⟩
      replace h := bnd h
      obtain ⟨t1, ht1, h⟩ := h
      refine wk_vector_Same H hS (hq0_2.mono tl2) (hq1_2.mono tl2) ht1 ?_; clear hS ht1; rintro w hS
      refine ⟨_, rfl, ?_⟩
      have h := some_inj h
      cases h
      exact hK _ (hS.pick (A := [_, _]) [] rfl)
    · have h := some_inj h
      cases h
      exact hK _ (hS.pick (A := [_, _]) [] rfl)
  · have h := some_inj h
    cases h
    exact hK _ (hS.pick (A := [_, _]) [] rfl)

theorem wk_matrix_Symmetric {N : Nums} {P : Program} (H : AllOk N P) {w0 w : World} {L : List It} {q0_0 : Int} {q0_1 : Int} {q0_2 : Option Addr} {q0_2l q0_2c : Nat} {ws0_2 : List Nat} {u0 : Bool} (hS : Ho w0 w (L)) (hq0_2 : Ent L (rdA (List.map (Value.float .f64) ws0_2) q0_2 q0_2l q0_2c)) (hx : T_matrix_Symmetric q0_0 q0_1 (List.map nf ws0_2) = some u0) {K : Value → World → Prop} (hK : ∀  (w1 : World), Ho w0 w1 (L) → K (.bool u0) w1) : CallsX P N.f_matrix_Symmetric #[.agg #[.int .i64 q0_0, .int .i64 q0_1, .slice q0_2 q0_2l q0_2c]] w K := by
  refine H.matrix_Symmetric q0_0 q0_1 q0_2 q0_2l q0_2c w _ ?_
  unfold S_matrix_Symmetric
  unfold T_matrix_Symmetric at hx
  have h := hx
  clear hx
  try dsimp only
  refine newM_s hS ?_; clear hS; intro r1 w hS
  refine ⟨_, (hS.cel mp0 rfl), ?_⟩
  refine ⟨_, (hS.cel mp0 rfl), ?_⟩
  refine ⟨_, _, _, (hS.cel mp0 rfl), ?_⟩
  replace h := bnd h
  obtain ⟨⟨t1, t2, t3, t4⟩, ho1, h⟩ := h
  refine wk_matrix_Transpose H hS (hq0_2.mono tl1) ho1 ?_; clear hS ho1; rintro a2 m2 c2 ws2 w rfl hS
  refine ⟨_, _, _, _, _, _, rfl, ?_⟩
  refine newM_s hS ?_; clear hS; intro r3 w hS
  refine stc_s hS rfl rfl ?_; clear hS; intro w hS
  refine stc_s hS rfl rfl ?_; clear hS; intro w hS
  refine stc_s hS rfl rfl ?_; clear hS; intro w hS
  refine cond_s h ?_ ?_ <;> clear h <;> intro hc h
  · refine ⟨_, (hS.cel mp0 rfl), ?_⟩
    refine ⟨_, (hS.cel mp0 rfl), ?_⟩
    refine ⟨_, _, _, (hS.cel mp0 rfl), ?_⟩
    refine ⟨_, (hS.cel mp2 rfl), ?_⟩
    refine ⟨_, (hS.cel mp2 rfl), ?_⟩
    refine ⟨_, _, _, (hS.cel mp2 rfl), ?_⟩
    replace h := bnd h
    obtain ⟨t5, ht5, h⟩ := h
    refine wk_matrix_Same H hS (Ent.sl mp1) (hq0_2.mono tl3) ht5 ?_; clear hS ht5; rintro w hS
    refine ⟨_, rfl, ?_⟩
    have h := some_inj h
    cases h
    exact hK _ (hS.pick (A := [_, _, _]) [] rfl)
  · have h := some_inj h
    cases h
    exact hK _ (hS.pick (A := [_, _, _]) [] rfl)

theorem wk_math_Float64frombits {N : Nums} {P : Program} (H : AllOk N P) {w0 w : World} {L : List It} {q0 : Int} {u0 : Nat} (hS : Ho w0 w (L))  (hx : T_math_Float64frombits q0 = some u0) {K : Value → World → Prop} (hK : ∀ (z0 : Nat) (w1 : World), nf z0 = u0 → Ho w0 w1 (L) → K (.float .f64 z0) w1) : CallsX P N.f_math_Float64frombits #[.int .u64 q0] w K := by
  unfold T_math_Float64frombits at hx
  have hx := some_inj hx
  exact H.math_Float64frombits q0 w _ (hK _ _ hx hS)

theorem wk_math_Abs {N : Nums} {P : Program} (H : AllOk N P) {w0 w : World} {L : List It} {q0 : Nat} {u0 : Nat} (hS : Ho w0 w (L))  (hx : T_math_Abs (nf q0) = some u0) {K : Value → World → Prop} (hK : ∀ (z0 : Nat) (w1 : World), nf z0 = u0 → Ho w0 w1 (L) → K (.float .f64 z0) w1) : CallsX P N.f_math_Abs #[.float .f64 q0] w K := by
  unfold T_math_Abs at hx
  have hx := some_inj hx
  refine (abs_c H q0 w).mono ?_
  rintro _ w1 ⟨rfl, h1⟩
  exact hK _ _ ((nf_magF q0).symm.trans hx) (hS.next h1)

theorem wk_math_IsInf {N : Nums} {P : Program} (H : AllOk N P) {w0 w : World} {L : List It} {q0 : Nat} {q1 : Int} {u0 : Bool} (hS : Ho w0 w (L))  (hx : T_math_IsInf (nf q0) q1 = some u0) {K : Value → World → Prop} (hK : ∀  (w1 : World), Ho w0 w1 (L) → K (.bool u0) w1) : CallsX P N.f_math_IsInf #[.float .f64 q0, .int .i64 q1] w K := by
  refine H.math_IsInf q0 q1 w _ ?_
  unfold S_math_IsInf
  unfold T_math_IsInf at hx
  have h := hx
  clear hx
  try dsimp only
  replace h := bnd h
  obtain ⟨o2, h2, c2⟩ := h
  refine cutM_i (fun s w => ∃ (z1 : Nat), (nf z1) = o2 ∧ s = (z1, ()) ∧ Ho w0 w (L)) (fun J2 hJ2 => ?_) ?_
  · have h := h2
    clear h2
    refine cond_s h ?_ ?_ <;> clear h <;> intro hc h
    · replace h := bnd h
      obtain ⟨t2, ht2, h⟩ := h
      refine wk_math_Abs H hS  ht2 ?_; clear hS ht2; rintro z3 w rfl hS
      refine ⟨_, rfl, ?_⟩
      obtain rfl := some_inj h
      exact hJ2 _ _ ⟨_, rfl, rfl, hS⟩
    · replace h := bnd h
      obtain ⟨o5, h5, c5⟩ := h
      refine cutM_i (fun s w => ∃ (z4 : Nat), (nf z4) = o5 ∧ s = (z4, ()) ∧ Ho w0 w (L)) (fun J5 hJ5 => ?_) ?_
      · have h := h5
        clear h5
        refine cond_s h ?_ ?_ <;> clear h <;> intro hc h
        · replace h := bnd h
          obtain ⟨t4, ht4, h⟩ := h
          obtain rfl := fneg_s ht4
          clear ht4
          obtain rfl := some_inj h
          exact hJ5 _ _ ⟨_, rfl, rfl, hS⟩
        · obtain rfl := some_inj h
          exact hJ5 _ _ ⟨_, rfl, rfl, hS⟩
      · clear h5 hS
        rintro s w ⟨z4, rfl, rfl, hS⟩
        have h := c5
        clear c5
        try dsimp only
        obtain rfl := some_inj h
        exact hJ2 _ _ ⟨_, rfl, rfl, hS⟩
  · clear h2 hS
    rintro s w ⟨z1, rfl, rfl, hS⟩
    have h := c2
    clear c2
    try dsimp only
    replace h := bnd h
    obtain ⟨t5, ht5, h⟩ := h
    obtain rfl := fgt_s ht5
    clear ht5
    have h := some_inj h
    cases h
    exact hK _ hS

theorem wk_lower_finite {N : Nums} {P : Program} (H : AllOk N P) {w0 w : World} {L : List It} {q0 : Nat} {u0 : Bool} (hS : Ho w0 w (L))  (hx : T_lower_finite (nf q0) = some u0) {K : Value → World → Prop} (hK : ∀  (w1 : World), Ho w0 w1 (L) → K (.bool u0) w1) : CallsX P N.f_lower_finite #[.float .f64 q0] w K := by
  refine H.lower_finite q0 w _ ?_
  unfold S_lower_finite
  unfold T_lower_finite at hx
  have h := hx
  clear hx
  try dsimp only
  replace h := bnd h
  obtain ⟨t1, ht1, h⟩ := h
  refine wk_math_IsNaN H hS  ht1 ?_; clear hS ht1; rintro w hS
  refine ⟨_, rfl, ?_⟩
  refine cond_s h ?_ ?_ <;> clear h <;> intro hc h
  · replace h := bnd h
    obtain ⟨t2, ht2, h⟩ := h
    refine wk_math_IsInf H hS  ht2 ?_; clear hS ht2; rintro w hS
    refine ⟨_, rfl, ?_⟩
    have h := some_inj h
    cases h
    exact hK _ hS
  · have h := some_inj h
    cases h
    exact hK _ hS

theorem wk_lower_row {N : Nums} {P : Program} (H : AllOk N P) {w0 w : World} {L : List It} {q0 : Option Addr} {q0l q0c : Nat} {ws0 : List Nat} {q1 : Int} {u0a u0b : Int} (hS : Ho w0 w (L)) (hq0 : Ent L (rdA (List.map (Value.float .f64) ws0) q0 q0l q0c)) (hx : T_lower_row (List.map nf ws0) q1 = some (u0a, u0b)) {K : Value → World → Prop} (hK : ∀  (w1 : World), Ho w0 w1 (L) → K (.slice (slBase q0 u0a.toNat u0b.toNat 1) (u0b.toNat - u0a.toNat) (u0b.toNat - u0a.toNat)) w1) : CallsX P N.f_lower_row #[.slice q0 q0l q0c, .int .i64 q1] w K := by
  refine H.lower_row q0 q0l q0c q1 w _ ?_
  unfold S_lower_row
  unfold T_lower_row at hx
  have h := hx
  clear hx
  try dsimp only
  refine ⟨by decide, ?_⟩
  replace h := bnd h
  obtain ⟨t1, ht1, h⟩ := h
  obtain ⟨rfl, q10, q11, q12⟩ := subF ht1
  clear ht1
  have q13 := (hq0.now (fun _ h => h) hS).hiCap q12
  refine ⟨Int.le_trans q10 q11, q13, Int.le_trans q10 q11, Int.le_refl _, q10, q11, ?_⟩
  have h := some_inj h
  cases h
  exact hK _ hS

theorem wk_lower_Factor {N : Nums} {P : Program} (H : AllOk N P) {w0 w : World} {L : List It} {q0_0 : Int} {q0_1 : Int} {q0_2 : Option Addr} {q0_2l q0_2c : Nat} {ws0_2 : List Nat} {u0 : Int} {u1 : List Nat} {u2 : List Nat} {u3 : Int} {u4 : Int} (hS : Ho w0 w (L)) (hq0_2 : Ent L (rdA (List.map (Value.float .f64) ws0_2) q0_2 q0_2l q0_2c)) (hx : T_lower_Factor q0_0 q0_1 (List.map nf ws0_2) = some (u0, u1, u2, u3, u4)) {K : Value → World → Prop} (hK : ∀ (a1 : Option Addr) (n1 c1 : Nat) (rws1 : List Nat) (a2 : Option Addr) (n2 c2 : Nat) (rws2 : List Nat) (w1 : World), List.map nf rws1 = u1 → List.map nf rws2 = u2 → Ho w0 w1 ((sl a1 n1 c1 (List.map (Value.float .f64) rws1) N.t_float64) :: (sl a2 n2 c2 (List.map (Value.float .f64) rws2) N.t_float64) :: L) → K (.tuple #[.agg #[.int .i64 u0, .slice a1 n1 c1, .slice a2 n2 c2], .int .i64 u3, .int .i64 u4]) w1) : CallsX P N.f_lower_Factor #[.agg #[.int .i64 q0_0, .int .i64 q0_1, .slice q0_2 q0_2l q0_2c]] w K := by
  refine H.lower_Factor q0_0 q0_1 q0_2 q0_2l q0_2c w _ ?_
  unfold S_lower_Factor
  unfold T_lower_Factor at hx
  have h := hx
  clear hx
  try dsimp only
  refine newM_s hS ?_; clear hS; intro r1 w hS
  refine newM_s hS ?_; clear hS; intro r2 w hS
  refine ⟨_, (hS.cel mp1 rfl), ?_⟩
  refine ⟨_, (hS.cel mp1 rfl), ?_⟩
  refine ⟨_, _, _, (hS.cel mp1 rfl), ?_⟩
  replace h := bnd h
  obtain ⟨t1, ht1, h⟩ := h
  refine wk_matrix_Symmetric H hS (hq0_2.mono tl2) ht1 ?_; clear hS ht1; rintro w hS
  refine ⟨_, rfl, ?_⟩
  refine cond_s h ?_ ?_ <;> clear h <;> intro hc h
  · refine ⟨_, (hS.cel mp0 rfl), ?_⟩
    refine ⟨_, _, _, (hS.cel mp0 rfl), ?_⟩
    refine ⟨_, _, _, (hS.cel mp0 rfl), ?_⟩
    refine stc_s hS rfl rfl ?_; clear hS; intro w hS
    refine stc_s hS rfl rfl ?_; clear hS; intro w hS
    refine stc_s hS rfl rfl ?_; clear hS; intro w hS
    refine ⟨_, (hS.cel mp0 rfl), ?_⟩
    refine ⟨_, _, _, (hS.cel mp0 rfl), ?_⟩
    refine ⟨_, _, _, (hS.cel mp0 rfl), ?_⟩
    replace hS := hS.none (α := Nat) (enc := (Value.float .f64)) (t := N.t_float64)
    replace hS := hS.none (α := Nat) (enc := (Value.float .f64)) (t := N.t_float64)
    have h := some_inj h
    cases h
    exact hK _ _ _ _ _ _ _ _ _ rfl rfl (hS.pick (A := [_, _, _, _]) [1, 0] rfl)
  · refine ⟨_, _, _, (hS.cel mp1 rfl), ?_⟩
    replace h := bnd h
    obtain ⟨t2, ht2, h⟩ := h
    obtain rfl := lenF ht2 ((hq0_2.mono tl2).now (fun _ h => h) hS)
    clear ht2
    replace h := bnd h
    obtain ⟨o3, h3, c3⟩ := h
    refine cutM_i (fun s w => ∃ (t3 : Int) (t4 : Int), .inl (t3, t4) = o3 ∧ s = (t3, t4, ()) ∧ Ho w0 w ((cl r2 [.int .i64 0, .slice none 0 0, .slice none 0 0] N.t_Factor) :: (cl r1 [.int .i64 q0_0, .int .i64 q0_1, .slice q0_2 q0_2l q0_2c] N.t_Matrix) :: L)) (fun J3 hJ3 => ?_) ?_
    · have h := h3
      clear h3
      refine iter_sim (fun s w t => ∃ (t5 : Int) (t6 : Int) (t7 : Int), (t5, t6, t7) = t ∧ s = (t5, t6, t7, ()) ∧ Ho w0 w ((cl r2 [.int .i64 0, .slice none 0 0, .slice none 0 0] N.t_Factor) :: (cl r1 [.int .i64 q0_0, .int .i64 q0_1, .slice q0_2 q0_2l q0_2c] N.t_Matrix) :: L)) ?_ h ⟨_, _, _, rfl, rfl, hS⟩
      clear h hS
      rintro s w t X q ⟨t5, t6, t7, rfl, rfl, hS⟩ h hX hO
      unfold T_lower_Factor_b2 at h
      try dsimp only
      refine cond_s h ?_ ?_ <;> clear h <;> intro hc h
      · replace h := bnd h
        obtain ⟨t8, ht8, h⟩ := h
        obtain ⟨z4, rfl, q5x, q5l, q5r⟩ := atF ht8
        clear ht8
        refine idx_s ((hq0_2.mono tl2).now (fun _ h => h) hS) q5x q5l q5r ?_; intro b6 hb6
        refine ⟨_, rd_get ((hq0_2.mono tl2).now (fun _ h => h) hS) hb6 q5x, ?_⟩
        replace h := bnd h
        obtain ⟨t9, ht9, h⟩ := h
        refine wk_lower_finite H hS  ht9 ?_; clear hS ht9; rintro w hS
        refine ⟨_, rfl, ?_⟩
        refine cond_s h ?_ ?_ <;> clear h <;> intro hc h
        · refine ⟨_, (hS.cel mp0 rfl), ?_⟩
          refine ⟨_, _, _, (hS.cel mp0 rfl), ?_⟩
          refine ⟨_, _, _, (hS.cel mp0 rfl), ?_⟩
          refine stc_s hS rfl rfl ?_; clear hS; intro w hS
          refine stc_s hS rfl rfl ?_; clear hS; intro w hS
          refine stc_s hS rfl rfl ?_; clear hS; intro w hS
          obtain rfl := some_inj h
          have h := congrArg some (hO _ rfl)
          obtain rfl := some_inj h
          have h := c3
          refine ⟨_, (hS.cel mp0 rfl), ?_⟩
          refine ⟨_, _, _, (hS.cel mp0 rfl), ?_⟩
          refine ⟨_, _, _, (hS.cel mp0 rfl), ?_⟩
          replace hS := hS.none (α := Nat) (enc := (Value.float .f64)) (t := N.t_float64)
          replace hS := hS.none (α := Nat) (enc := (Value.float .f64)) (t := N.t_float64)
          have h := some_inj h
          cases h
          exact hK _ _ _ _ _ _ _ _ _ rfl rfl (hS.pick (A := [_, _, _, _]) [1, 0] rfl)
        · obtain rfl := some_inj h
          exact hX _ rfl _ _ ⟨_, _, _, rfl, rfl, hS⟩
      · obtain rfl := some_inj h
        have h := congrArg some (hO _ rfl)
        obtain rfl := some_inj h
        exact hJ3 _ _ ⟨_, _, rfl, rfl, hS⟩
    · clear h3 hS
      rintro s w ⟨t3, t4, rfl, rfl, hS⟩
      have h := c3
      clear c3
      try dsimp only
      refine ⟨_, (hS.cel mp1 rfl), ?_⟩
      replace h := bnd h
      obtain ⟨o11, h11, c11⟩ := h
      refine cutM_i (fun s w => ∃ (r7 : Nat) (ws8 : List Nat) (r9 : Nat) (ws10 : List Nat), ((List.map nf ws8), (List.map nf ws10)) = o11 ∧ s = (((some ⟨r9, 0, none⟩), ((IntKind.i64.wrap ((IntKind.i64.wrap (q0_0 * (IntKind.i64.wrap (q0_0 - 1)))).tdiv 2))).toNat, ((IntKind.i64.wrap ((IntKind.i64.wrap (q0_0 * (IntKind.i64.wrap (q0_0 - 1)))).tdiv 2))).toNat), ((some ⟨r7, 0, none⟩), (q0_0).toNat, (q0_0).toNat), ()) ∧ Ho w0 w ((sl (some ⟨r7, 0, none⟩) ((q0_0).toNat) ((q0_0).toNat) (List.map (Value.float .f64) ws8) N.t_float64) :: (sl (some ⟨r9, 0, none⟩) (((IntKind.i64.wrap ((IntKind.i64.wrap (q0_0 * (IntKind.i64.wrap (q0_0 - 1)))).tdiv 2))).toNat) (((IntKind.i64.wrap ((IntKind.i64.wrap (q0_0 * (IntKind.i64.wrap (q0_0 - 1)))).tdiv 2))).toNat) (List.map (Value.float .f64) ws10) N.t_float64) :: (cl r2 [.int .i64 0, .slice none 0 0, .slice none 0 0] N.t_Factor) :: (cl r1 [.int .i64 q0_0, .int .i64 q0_1, .slice q0_2 q0_2l q0_2c] N.t_Matrix) :: L)) (fun J11 hJ11 => ?_) ?_
      · have h := h11
        clear h11
        refine ⟨by decide, ?_⟩
        replace h := bnd h
        obtain ⟨t12, ht12, h⟩ := h
        replace h := bnd h
        obtain ⟨t13, ht13, h⟩ := h
        refine ⟨?_, ?_⟩
        · refine drM_s hS ?_; clear hS; intro w hS
          skip
          skip
          obtain ⟨rfl, kt12⟩ := mkF ht12
          clear ht12
          refine mk_s (enc := (Value.float .f64)) hS kt12 rfl ?_; clear hS kt12; intro r12 w hS
          refine drM_s hS ?_; clear hS; intro w hS
          skip
          skip
          obtain ⟨rfl, kt13⟩ := mkF ht13
          clear ht13
          refine mk_s (enc := (Value.float .f64)) hS kt13 rfl ?_; clear hS kt13; intro r13 w hS
          refine drM_s hS ?_; clear hS; intro w hS
          obtain rfl := some_inj h
          exact hJ11 _ _ ⟨_, _, _, _, rfl, rfl, hS⟩
        · refine drM_s hS ?_; clear hS; intro w hS
          skip
          skip
          obtain ⟨rfl, kt13⟩ := mkF ht13
          clear ht13
          refine mk_s (enc := (Value.float .f64)) hS kt13 rfl ?_; clear hS kt13; intro r14 w hS
          refine drM_s hS ?_; clear hS; intro w hS
          skip
          skip
          obtain ⟨rfl, kt12⟩ := mkF ht12
          clear ht12
          refine mk_s (enc := (Value.float .f64)) hS kt12 rfl ?_; clear hS kt12; intro r15 w hS
          refine drM_s hS ?_; clear hS; intro w hS
          obtain rfl := some_inj h
          exact hJ11 _ _ ⟨_, _, _, _, rfl, rfl, (hS.pick (A := [_, _, _, _]) [1, 0, 0, 0] rfl)⟩
      · clear h11 hS
        rintro s w ⟨r7, ws8, r9, ws10, rfl, rfl, hS⟩
        have h := c11
        clear c11
        try dsimp only
        replace h := bnd h
        obtain ⟨t14, ht14, h⟩ := h
        obtain ⟨rfl, kt14⟩ := mkF ht14
        clear ht14
        refine mk_s (enc := (Value.float .f64)) hS kt14 rfl ?_; clear hS kt14; intro r16 w hS
        replace h := bnd h
        obtain ⟨o19, h19, c19⟩ := h
        refine cutM_i (fun s w => ∃ (t15 : Int) (t16 : Int) (ws17 : List Nat) (ws18 : List Nat), (t15, t16, (List.map nf ws17), (List.map nf ws18)) = o19 ∧ s = (t15, t16, ()) ∧ Ho w0 w ((sl (some ⟨r7, 0, none⟩) ((q0_0).toNat) ((q0_0).toNat) (List.map (Value.float .f64) ws17) N.t_float64) :: (sl (some ⟨r9, 0, none⟩) (((IntKind.i64.wrap ((IntKind.i64.wrap (q0_0 * (IntKind.i64.wrap (q0_0 - 1)))).tdiv 2))).toNat) (((IntKind.i64.wrap ((IntKind.i64.wrap (q0_0 * (IntKind.i64.wrap (q0_0 - 1)))).tdiv 2))).toNat) (List.map (Value.float .f64) ws18) N.t_float64) :: (cl r2 [.int .i64 0, .slice none 0 0, .slice none 0 0] N.t_Factor) :: L)) (fun J19 hJ19 => ?_) ?_
        · have h := h19
          clear h19
          refine iter_sim (fun s w t => ∃ (t19 : Int) (t20 : Int) (t21 : Int) (ws20 : List Nat) (ws21 : List Nat) (ws22 : List Nat), (t19, t20, t21, (List.map nf ws20), (List.map nf ws21), (List.map nf ws22)) = t ∧ s = (t19, t20, t21, ()) ∧ Ho w0 w ((sl (some ⟨r16, 0, none⟩) ((q0_0).toNat) ((q0_0).toNat) (List.map (Value.float .f64) ws20) N.t_float64) :: (sl (some ⟨r7, 0, none⟩) ((q0_0).toNat) ((q0_0).toNat) (List.map (Value.float .f64) ws21) N.t_float64) :: (sl (some ⟨r9, 0, none⟩) (((IntKind.i64.wrap ((IntKind.i64.wrap (q0_0 * (IntKind.i64.wrap (q0_0 - 1)))).tdiv 2))).toNat) (((IntKind.i64.wrap ((IntKind.i64.wrap (q0_0 * (IntKind.i64.wrap (q0_0 - 1)))).tdiv 2))).toNat) (List.map (Value.float .f64) ws22) N.t_float64) :: (cl r2 [.int .i64 0, .slice none 0 0, .slice none 0 0] N.t_Factor) :: (cl r1 [.int .i64 q0_0, .int .i64 q0_1, .slice q0_2 q0_2l q0_2c] N.t_Matrix) :: L)) ?_ h ⟨_, _, _, _, _, _, rfl, rfl, hS⟩
          clear h hS
          rintro s w t X q ⟨t19, t20, t21, ws20, ws21, ws22, rfl, rfl, hS⟩ h hX hO
          unfold T_lower_Factor_b29 at h
          try dsimp only
          refine cond_s h ?_ ?_ <;> clear h <;> intro hc h
          · replace h := bnd h
            obtain ⟨⟨t25, t26⟩, ho25, h⟩ := h
            refine wk_lower_row H hS (Ent.sl mp2) ho25 ?_; clear hS ho25; rintro w hS
            refine ⟨_, _, _, rfl, ?_⟩
            replace h := bnd h
            obtain ⟨t27, ht27, h⟩ := h
            obtain ⟨rfl, q240, q241, q242⟩ := subF ht27
            clear ht27
            have q243 := ((Ent.sl mp2).now (fun _ h => h) hS).hiCap q242
            refine ⟨_, _, _, (hS.cel mp4 rfl), ?_⟩
            replace h := bnd h
            obtain ⟨t28, ht28, h⟩ := h
            obtain ⟨z25, rfl, q26x, q26l, q26r⟩ := atF ht28
            clear ht28
            refine idx_s ((hq0_2.mono tl5).now (fun _ h => h) hS) q26x q26l q26r ?_; intro b27 hb27
            refine ⟨_, rd_get ((hq0_2.mono tl5).now (fun _ h => h) hS) hb27 q26x, ?_⟩
            replace h := bnd h
            obtain ⟨t29, ht29, h⟩ := h
            obtain rfl := lenF ht29 ((Ent.part3 (Ent.sl mp2) q240 q241 q242 (Int.le_refl _) q243).now (fun _ h => h) hS)
            clear ht29
            replace h := bnd h
            obtain ⟨o30, h30, c30⟩ := h
            refine cutM_i (fun s w => ∃ (z28 : Nat) (ws29 : List Nat), ((nf z28), (List.map nf ws29)) = o30 ∧ s = (z28, ()) ∧ Ho w0 w ((sl (some ⟨r16, 0, none⟩) ((q0_0).toNat) ((q0_0).toNat) (List.map (Value.float .f64) ws29) N.t_float64) :: (sl (some ⟨r7, 0, none⟩) ((q0_0).toNat) ((q0_0).toNat) (List.map (Value.float .f64) ws21) N.t_float64) :: (sl (some ⟨r9, 0, none⟩) (((IntKind.i64.wrap ((IntKind.i64.wrap (q0_0 * (IntKind.i64.wrap (q0_0 - 1)))).tdiv 2))).toNat) (((IntKind.i64.wrap ((IntKind.i64.wrap (q0_0 * (IntKind.i64.wrap (q0_0 - 1)))).tdiv 2))).toNat) (List.map (Value.float .f64) ws22) N.t_float64) :: (cl r2 [.int .i64 0, .slice none 0 0, .slice none 0 0] N.t_Factor) :: (cl r1 [.int .i64 q0_0, .int .i64 q0_1, .slice q0_2 q0_2l q0_2c] N.t_Matrix) :: L)) (fun J30 hJ30 => ?_) ?_
            · have h := h30
              clear h30
              refine iter_sim (fun s w t => ∃ (z31 : Nat) (t33 : Int) (ws32 : List Nat), ((nf z31), t33, (List.map nf ws32)) = t ∧ s = (z31, t33, ()) ∧ Ho w0 w ((sl (some ⟨r16, 0, none⟩) ((q0_0).toNat) ((q0_0).toNat) (List.map (Value.float .f64) ws32) N.t_float64) :: (sl (some ⟨r7, 0, none⟩) ((q0_0).toNat) ((q0_0).toNat) (List.map (Value.float .f64) ws21) N.t_float64) :: (sl (some ⟨r9, 0, none⟩) (((IntKind.i64.wrap ((IntKind.i64.wrap (q0_0 * (IntKind.i64.wrap (q0_0 - 1)))).tdiv 2))).toNat) (((IntKind.i64.wrap ((IntKind.i64.wrap (q0_0 * (IntKind.i64.wrap (q0_0 - 1)))).tdiv 2))).toNat) (List.map (Value.float .f64) ws22) N.t_float64) :: (cl r2 [.int .i64 0, .slice none 0 0, .slice none 0 0] N.t_Factor) :: (cl r1 [.int .i64 q0_0, .int .i64 q0_1, .slice q0_2 q0_2l q0_2c] N.t_Matrix) :: L)) ?_ h ⟨_, _, _, rfl, rfl, hS⟩
              clear h hS
              rintro s w t X q ⟨z31, t33, ws32, rfl, rfl, hS⟩ h hX hO
              unfold T_lower_Factor_b31 at h
              try dsimp only
              refine cond_s h ?_ ?_ <;> clear h <;> intro hc h
              · replace h := bnd h
                obtain ⟨t35, ht35, h⟩ := h
                obtain ⟨z33, rfl, q34x, q34l, q34r⟩ := atF ht35
                clear ht35
                refine idx_s ((Ent.part3 (Ent.sl mp2) q240 q241 q242 (Int.le_refl _) q243).now (fun _ h => h) hS) q34x q34l q34r ?_; intro b35 hb35
                refine ⟨_, rd_get ((Ent.part3 (Ent.sl mp2) q240 q241 q242 (Int.le_refl _) q243).now (fun _ h => h) hS) hb35 q34x, ?_⟩
                replace h := bnd h
                obtain ⟨t36, ht36, h⟩ := h
                obtain ⟨z36, rfl, q37x, q37l, q37r⟩ := atF ht36
                clear ht36
                refine idx_s ((Ent.sl mp1).now (fun _ h => h) hS) q37x q37l q37r ?_; intro b38 hb38
                refine ⟨_, rd_get ((Ent.sl mp1).now (fun _ h => h) hS) hb38 q37x, ?_⟩
                replace h := bnd h
                obtain ⟨t37, ht37, h⟩ := h
                refine fmul_s ht37 hS ?_; clear hS ht37; rintro z39 w rfl hS
                replace h := bnd h
                obtain ⟨t38, ht38, h⟩ := h
                obtain ⟨z40, rfl, q41x, q41l, q41r⟩ := atF ht38
                clear ht38
                refine idy_s ((Ent.sl mp0).now (fun _ h => h) hS) q41x q41l q41r ?_
                replace h := bnd h
                obtain ⟨t39, ht39, h⟩ := h
                obtain rfl := setF ht39
                clear ht39
                refine sto_s hS rfl q41r ?_; clear hS; intro w hS
                replace h := bnd h
                obtain ⟨t40, ht40, h⟩ := h
                obtain ⟨z43, rfl, q44x, q44l, q44r⟩ := atF ht40
                clear ht40
                refine idy_s ((Ent.sl mp0).now (fun _ h => h) hS) q44x q44l q44r ?_
                refine ⟨_, rd_get ((Ent.sl mp0).now (fun _ h => h) hS) rfl q44x, ?_⟩
                replace h := bnd h
                obtain ⟨t41, ht41, h⟩ := h
                refine fmul_s ht41 hS ?_; clear hS ht41; rintro z46 w rfl hS
                replace h := bnd h
                obtain ⟨t42, ht42, h⟩ := h
                refine fsub_s ht42 hS ?_; clear hS ht42; rintro z47 w rfl hS
                obtain rfl := some_inj h
                exact hX _ rfl _ _ ⟨_, _, _, rfl, rfl, hS⟩
              · obtain rfl := some_inj h
                have h := congrArg some (hO _ rfl)
                obtain rfl := some_inj h
                exact hJ30 _ _ ⟨_, _, rfl, rfl, hS⟩
            · clear h30 hS
              rintro s w ⟨z28, ws29, rfl, rfl, hS⟩
              have h := c30
              clear c30
              try dsimp only
              replace h := bnd h
              obtain ⟨o48, h48, c48⟩ := h
              refine cutM_i (fun s w => ∃ (t43 : Bool), t43 = o48 ∧ s = (t43, ()) ∧ Ho w0 w ((sl (some ⟨r16, 0, none⟩) ((q0_0).toNat) ((q0_0).toNat) (List.map (Value.float .f64) ws29) N.t_float64) :: (sl (some ⟨r7, 0, none⟩) ((q0_0).toNat) ((q0_0).toNat) (List.map (Value.float .f64) ws21) N.t_float64) :: (sl (some ⟨r9, 0, none⟩) (((IntKind.i64.wrap ((IntKind.i64.wrap (q0_0 * (IntKind.i64.wrap (q0_0 - 1)))).tdiv 2))).toNat) (((IntKind.i64.wrap ((IntKind.i64.wrap (q0_0 * (IntKind.i64.wrap (q0_0 - 1)))).tdiv 2))).toNat) (List.map (Value.float .f64) ws22) N.t_float64) :: (cl r2 [.int .i64 0, .slice none 0 0, .slice none 0 0] N.t_Factor) :: (cl r1 [.int .i64 q0_0, .int .i64 q0_1, .slice q0_2 q0_2l q0_2c] N.t_Matrix) :: L)) (fun J48 hJ48 => ?_) ?_
              · have h := h48
                clear h48
                replace h := bnd h
                obtain ⟨t44, ht44, h⟩ := h
                obtain rfl := fgt_s ht44
                clear ht44
                refine cond_s h ?_ ?_ <;> clear h <;> intro hc h
                · replace h := bnd h
                  obtain ⟨t45, ht45, h⟩ := h
                  refine wk_lower_finite H hS  ht45 ?_; clear hS ht45; rintro w hS
                  refine ⟨_, rfl, ?_⟩
                  obtain rfl := some_inj h
                  exact hJ48 _ _ ⟨_, rfl, rfl, hS⟩
                · obtain rfl := some_inj h
                  exact hJ48 _ _ ⟨_, rfl, rfl, hS⟩
              · clear h48 hS
                rintro s w ⟨t43, rfl, rfl, hS⟩
                have h := c48
                clear c48
                try dsimp only
                refine cond_s h ?_ ?_ <;> clear h <;> intro hc h
                · obtain rfl := some_inj h
                  have h := congrArg some (hO _ rfl)
                  obtain rfl := some_inj h
                  exact hJ19 _ _ ⟨_, _, _, _, rfl, rfl, (hS.pick (A := [_, _, _, _, _]) [1, 1, 1] rfl)⟩
                · replace h := bnd h
                  obtain ⟨t46, ht46, h⟩ := h
                  obtain ⟨z49, rfl, q50x, q50l, q50r⟩ := atF ht46
                  clear ht46
                  refine idx_s ((Ent.sl mp1).now (fun _ h => h) hS) q50x q50l q50r ?_; intro b51 hb51
                  replace hS := ro1 hS
                  replace h := bnd h
                  obtain ⟨t47, ht47, h⟩ := h
                  obtain rfl := setF ht47
                  clear ht47
                  refine sto_s hS hb51 q50r ?_; clear hS; intro w hS
                  replace h := bnd h
                  obtain ⟨o53, h53, c53⟩ := h
                  refine cutM_i (fun s w => ∃ (t48 : Int) (t49 : Int) (ws52 : List Nat), .inl (t48, t49, (List.map nf ws52)) = o53 ∧ s = (t48, t49, ()) ∧ Ho w0 w ((sl (some ⟨r7, 0, none⟩) ((q0_0).toNat) ((q0_0).toNat) (List.map (Value.float .f64) (ws21.set (t21).toNat z28)) N.t_float64) :: (sl (some ⟨r16, 0, none⟩) ((q0_0).toNat) ((q0_0).toNat) (List.map (Value.float .f64) ws29) N.t_float64) :: (sl (some ⟨r9, 0, none⟩) (((IntKind.i64.wrap ((IntKind.i64.wrap (q0_0 * (IntKind.i64.wrap (q0_0 - 1)))).tdiv 2))).toNat) (((IntKind.i64.wrap ((IntKind.i64.wrap (q0_0 * (IntKind.i64.wrap (q0_0 - 1)))).tdiv 2))).toNat) (List.map (Value.float .f64) ws52) N.t_float64) :: (cl r2 [.int .i64 0, .slice none 0 0, .slice none 0 0] N.t_Factor) :: (cl r1 [.int .i64 q0_0, .int .i64 q0_1, .slice q0_2 q0_2l q0_2c] N.t_Matrix) :: L)) (fun J53 hJ53 => ?_) ?_
                  · have h := h53
                    clear h53
                    refine iter_sim (fun s w t => ∃ (t51 : Int) (t52 : Int) (t53 : Int) (ws54 : List Nat), (t51, t52, t53, (List.map nf ws54)) = t ∧ s = (t51, t52, t53, ()) ∧ Ho w0 w ((sl (some ⟨r7, 0, none⟩) ((q0_0).toNat) ((q0_0).toNat) (List.map (Value.float .f64) (ws21.set (t21).toNat z28)) N.t_float64) :: (sl (some ⟨r16, 0, none⟩) ((q0_0).toNat) ((q0_0).toNat) (List.map (Value.float .f64) ws29) N.t_float64) :: (sl (some ⟨r9, 0, none⟩) (((IntKind.i64.wrap ((IntKind.i64.wrap (q0_0 * (IntKind.i64.wrap (q0_0 - 1)))).tdiv 2))).toNat) (((IntKind.i64.wrap ((IntKind.i64.wrap (q0_0 * (IntKind.i64.wrap (q0_0 - 1)))).tdiv 2))).toNat) (List.map (Value.float .f64) ws54) N.t_float64) :: (cl r2 [.int .i64 0, .slice none 0 0, .slice none 0 0] N.t_Factor) :: (cl r1 [.int .i64 q0_0, .int .i64 q0_1, .slice q0_2 q0_2l q0_2c] N.t_Matrix) :: L)) ?_ h ⟨_, _, _, _, rfl, rfl, hS⟩
                    clear h hS
                    rintro s w t X q ⟨t51, t52, t53, ws54, rfl, rfl, hS⟩ h hX hO
                    unfold T_lower_Factor_b38 at h
                    try dsimp only
                    refine cond_s h ?_ ?_ <;> clear h <;> intro hc h
                    · replace h := bnd h
                      obtain ⟨⟨t55, t56⟩, ho55, h⟩ := h
                      refine wk_lower_row H hS (Ent.sl mp2) ho55 ?_; clear hS ho55; rintro w hS
                      refine ⟨_, _, _, rfl, ?_⟩
                      replace h := bnd h
                      obtain ⟨t57, ht57, h⟩ := h
                      obtain ⟨rfl, q560, q561, q562⟩ := subF ht57
                      clear ht57
                      have q563 := ((Ent.sl mp2).now (fun _ h => h) hS).hiCap q562
                      refine ⟨_, _, _, (hS.cel mp4 rfl), ?_⟩
                      replace h := bnd h
                      obtain ⟨t58, ht58, h⟩ := h
                      obtain ⟨z57, rfl, q58x, q58l, q58r⟩ := atF ht58
                      clear ht58
                      refine idx_s ((hq0_2.mono tl5).now (fun _ h => h) hS) q58x q58l q58r ?_; intro b59 hb59
                      refine ⟨_, rd_get ((hq0_2.mono tl5).now (fun _ h => h) hS) hb59 q58x, ?_⟩
                      replace h := bnd h
                      obtain ⟨o61, h61, c61⟩ := h
                      refine cutM_i (fun s w => ∃ (z60 : Nat), (nf z60) = o61 ∧ s = (z60, ()) ∧ Ho w0 w ((sl (some ⟨r7, 0, none⟩) ((q0_0).toNat) ((q0_0).toNat) (List.map (Value.float .f64) (ws21.set (t21).toNat z28)) N.t_float64) :: (sl (some ⟨r16, 0, none⟩) ((q0_0).toNat) ((q0_0).toNat) (List.map (Value.float .f64) ws29) N.t_float64) :: (sl (some ⟨r9, 0, none⟩) (((IntKind.i64.wrap ((IntKind.i64.wrap (q0_0 * (IntKind.i64.wrap (q0_0 - 1)))).tdiv 2))).toNat) (((IntKind.i64.wrap ((IntKind.i64.wrap (q0_0 * (IntKind.i64.wrap (q0_0 - 1)))).tdiv 2))).toNat) (List.map (Value.float .f64) ws54) N.t_float64) :: (cl r2 [.int .i64 0, .slice none 0 0, .slice none 0 0] N.t_Factor) :: (cl r1 [.int .i64 q0_0, .int .i64 q0_1, .slice q0_2 q0_2l q0_2c] N.t_Matrix) :: L)) (fun J61 hJ61 => ?_) ?_
                      · have h := h61
                        clear h61
                        refine iter_sim (fun s w t => ∃ (z62 : Nat) (t61 : Int), ((nf z62), t61) = t ∧ s = (z62, t61, ()) ∧ Ho w0 w ((sl (some ⟨r7, 0, none⟩) ((q0_0).toNat) ((q0_0).toNat) (List.map (Value.float .f64) (ws21.set (t21).toNat z28)) N.t_float64) :: (sl (some ⟨r16, 0, none⟩) ((q0_0).toNat) ((q0_0).toNat) (List.map (Value.float .f64) ws29) N.t_float64) :: (sl (some ⟨r9, 0, none⟩) (((IntKind.i64.wrap ((IntKind.i64.wrap (q0_0 * (IntKind.i64.wrap (q0_0 - 1)))).tdiv 2))).toNat) (((IntKind.i64.wrap ((IntKind.i64.wrap (q0_0 * (IntKind.i64.wrap (q0_0 - 1)))).tdiv 2))).toNat) (List.map (Value.float .f64) ws54) N.t_float64) :: (cl r2 [.int .i64 0, .slice none 0 0, .slice none 0 0] N.t_Factor) :: (cl r1 [.int .i64 q0_0, .int .i64 q0_1, .slice q0_2 q0_2l q0_2c] N.t_Matrix) :: L)) ?_ h ⟨_, _, rfl, rfl, hS⟩
                        clear h hS
                        rintro s w t X q ⟨z62, t61, rfl, rfl, hS⟩ h hX hO
                        unfold T_lower_Factor_b40 at h
                        try dsimp only
                        refine cond_s h ?_ ?_ <;> clear h <;> intro hc h
                        · replace h := bnd h
                          obtain ⟨t62, ht62, h⟩ := h
                          obtain ⟨z63, rfl, q64x, q64l, q64r⟩ := atF ht62
                          clear ht62
                          refine idx_s ((Ent.part3 (Ent.sl mp2) q560 q561 q562 (Int.le_refl _) q563).now (fun _ h => h) hS) q64x q64l q64r ?_; intro b65 hb65
                          refine ⟨_, rd_get ((Ent.part3 (Ent.sl mp2) q560 q561 q562 (Int.le_refl _) q563).now (fun _ h => h) hS) hb65 q64x, ?_⟩
                          replace h := bnd h
                          obtain ⟨t63, ht63, h⟩ := h
                          obtain ⟨z66, rfl, q67x, q67l, q67r⟩ := atF ht63
                          clear ht63
                          refine idy_s ((Ent.sl mp1).now (fun _ h => h) hS) q67x q67l q67r ?_
                          refine ⟨_, rd_get ((Ent.sl mp1).now (fun _ h => h) hS) rfl q67x, ?_⟩
                          replace h := bnd h
                          obtain ⟨t64, ht64, h⟩ := h
                          refine fmul_s ht64 hS ?_; clear ht64; rintro z69 _ rfl _
                          replace h := bnd h
                          obtain ⟨t65, ht65, h⟩ := h
                          refine fsub_s ht65 hS ?_; clear ht65; rintro z70 _ rfl _
                          refine drM_s hS ?_; clear hS; intro w hS
                          obtain rfl := some_inj h
                          exact hX _ rfl _ _ ⟨_, _, rfl, rfl, hS⟩
                        · obtain rfl := some_inj h
                          have h := congrArg some (hO _ rfl)
                          obtain rfl := some_inj h
                          exact hJ61 _ _ ⟨_, rfl, rfl, hS⟩
                      · clear h61 hS
                        rintro s w ⟨z60, rfl, rfl, hS⟩
                        have h := c61
                        clear c61
                        try dsimp only
                        replace h := bnd h
                        obtain ⟨t66, ht66, h⟩ := h
                        obtain ⟨z71, rfl, q72x, q72l, q72r⟩ := atF ht66
                        clear ht66
                        refine idx_s ((Ent.sl mp0).now (fun _ h => h) hS) q72x q72l q72r ?_; intro b73 hb73
                        refine ⟨_, rd_get ((Ent.sl mp0).now (fun _ h => h) hS) hb73 q72x, ?_⟩
                        replace h := bnd h
                        obtain ⟨t67, ht67, h⟩ := h
                        refine fdiv_s ht67 hS ?_; clear hS ht67; rintro z74 w rfl hS
                        replace h := bnd h
                        obtain ⟨t68, ht68, h⟩ := h
                        obtain ⟨z75, rfl, q76x, q76l, q76r⟩ := atF ht68
                        clear ht68
                        refine idx_s ((Ent.part3 (Ent.sl mp2) q560 q561 q562 (Int.le_refl _) q563).now (fun _ h => h) hS) q76x q76l q76r ?_; intro b77 hb77
                        replace hS := ro2 hS
                        replace h := bnd h
                        obtain ⟨t69, ht69, h⟩ := h
                        obtain rfl := setF ht69
                        clear ht69
                        refine stp_s (len := (t56).toNat - (t55).toNat) hS hb77 (by rw [len_take q562] at q76r; exact q76r) (by omega) (by omega) ?_; clear hS; intro w hS
                        replace h := bnd h
                        obtain ⟨t70, ht70, h⟩ := h
                        obtain ⟨rfl, q780, q781, q782⟩ := subF ht70
                        clear ht70
                        have q783 := ((Ent.sl mp0).now (fun _ h => h) hS).hiCap q782
                        replace h := bnd h
                        obtain ⟨t71, ht71, h⟩ := h
                        obtain ⟨z79, rfl, q80x, q80l, q80r⟩ := atF ht71
                        clear ht71
                        refine idx_s ((Ent.part3 (Ent.sl mp0) q780 q781 q782 (Int.le_refl _) q783).now (fun _ h => h) hS) q80x q80l q80r ?_; intro b81 hb81
                        refine ⟨_, rd_get ((Ent.part3 (Ent.sl mp0) q780 q781 q782 (Int.le_refl _) q783).now (fun _ h => h) hS) hb81 q80x, ?_⟩
                        replace h := bnd h
                        obtain ⟨t72, ht72, h⟩ := h
                        refine wk_lower_finite H hS  ht72 ?_; clear hS ht72; rintro w hS
                        refine ⟨_, rfl, ?_⟩
                        refine cond_s h ?_ ?_ <;> clear h <;> intro hc h
                        · obtain rfl := some_inj h
                          have h := congrArg some (hO _ rfl)
                          obtain rfl := some_inj h
                          have h := c53
                          obtain rfl := some_inj h
                          have h := congrArg some (hO _ rfl)
                          obtain rfl := some_inj h
                          exact hJ19 _ _ ⟨_, _, _, _, rfl, rfl, (hS.pick (A := [_, _, _, _, _]) [1, 0, 1] rfl)⟩
                        · obtain rfl := some_inj h
                          exact hX _ rfl _ _ ⟨_, _, _, _, rfl, rfl, (hS.pick (A := [_, _, _, _, _]) [1, 1, 0, 0, 0] rfl)⟩
                    · obtain rfl := some_inj h
                      have h := congrArg some (hO _ rfl)
                      obtain rfl := some_inj h
                      exact hJ53 _ _ ⟨_, _, _, rfl, rfl, hS⟩
                  · clear h53 hS
                    rintro s w ⟨t48, t49, ws52, rfl, rfl, hS⟩
                    have h := c53
                    clear c53
                    try dsimp only
                    obtain rfl := some_inj h
                    exact hX _ rfl _ _ ⟨_, _, _, _, _, _, rfl, rfl, (hS.pick (A := [_, _, _, _, _]) [1, 0, 0, 0, 0] rfl)⟩
          · obtain rfl := some_inj h
            have h := congrArg some (hO _ rfl)
            obtain rfl := some_inj h
            exact hJ19 _ _ ⟨_, _, _, _, rfl, rfl, (hS.pick (A := [_, _, _, _, _]) [1, 1, 1] rfl)⟩
        · clear h19 hS
          rintro s w ⟨t15, t16, ws17, ws18, rfl, rfl, hS⟩
          have h := c19
          clear c19
          try dsimp only
          refine cond_s h ?_ ?_ <;> clear h <;> intro hc h
          · refine ⟨_, (hS.cel mp2 rfl), ?_⟩
            refine ⟨_, _, _, (hS.cel mp2 rfl), ?_⟩
            refine ⟨_, _, _, (hS.cel mp2 rfl), ?_⟩
            replace hS := ro2 hS
            refine stc_s hS rfl rfl ?_; clear hS; intro w hS
            refine stc_s hS rfl rfl ?_; clear hS; intro w hS
            refine stc_s hS rfl rfl ?_; clear hS; intro w hS
            refine ⟨_, (hS.cel mp0 rfl), ?_⟩
            refine ⟨_, _, _, (hS.cel mp0 rfl), ?_⟩
            refine ⟨_, _, _, (hS.cel mp0 rfl), ?_⟩
            replace hS := hS.none (α := Nat) (enc := (Value.float .f64)) (t := N.t_float64)
            replace hS := hS.none (α := Nat) (enc := (Value.float .f64)) (t := N.t_float64)
            have h := some_inj h
            cases h
            exact hK _ _ _ _ _ _ _ _ _ rfl rfl (hS.pick (A := [_, _, _, _, _]) [1, 0] rfl)
          · replace hS := ro2 hS
            refine stc_s hS rfl rfl ?_; clear hS; intro w hS
            refine stc_s hS rfl rfl ?_; clear hS; intro w hS
            refine stc_s hS rfl rfl ?_; clear hS; intro w hS
            refine ⟨_, (hS.cel mp0 rfl), ?_⟩
            refine ⟨_, _, _, (hS.cel mp0 rfl), ?_⟩
            refine ⟨_, _, _, (hS.cel mp0 rfl), ?_⟩
            have h := some_inj h
            cases h
            exact hK _ _ _ _ _ _ _ _ _ rfl rfl (hS.pick (A := [_, _, _]) [2, 1] rfl)

theorem wk_girderref10_may {N : Nums} {P : Program} (H : AllOk N P) {w0 w : World} {L : List It} {q0 : Int} {u0 : Bool} (hS : Ho w0 w (L))  (hx : T_girderref10_may q0 = some u0) {K : Value → World → Prop} (hK : ∀  (w1 : World), Ho w0 w1 (L) → K (.bool u0) w1) : CallsX P N.f_girderref10_may #[.int .i64 q0] w K := by
  refine H.girderref10_may q0 w _ ?_
  unfold S_girderref10_may
  unfold T_girderref10_may at hx
  have h := hx
  clear hx
  try dsimp only
  refine cond_s h ?_ ?_ <;> clear h <;> intro hc h
  · have h := some_inj h
    cases h
    exact hK _ hS
  · have h := some_inj h
    cases h
    exact hK _ hS

theorem wk_girderref10_Right {N : Nums} {P : Program} (H : AllOk N P) {w0 w : World} {L : List It} {q0_0 : Int} {q0_1 : Int} {q0_2 : Option Addr} {q0_2l q0_2c : Nat} {ws0_2 : List Nat} {u0 : Bool} (hS : Ho w0 w (L)) (hq0_2 : Ent L (rdA (List.map (Value.float .f64) ws0_2) q0_2 q0_2l q0_2c)) (hx : T_girderref10_Right q0_0 q0_1 (List.map nf ws0_2) = some u0) {K : Value → World → Prop} (hK : ∀  (w1 : World), Ho w0 w1 (L) → K (.bool u0) w1) : CallsX P N.f_girderref10_Right #[.agg #[.int .i64 q0_0, .int .i64 q0_1, .slice q0_2 q0_2l q0_2c]] w K := by
  refine H.girderref10_Right q0_0 q0_1 q0_2 q0_2l q0_2c w _ ?_
  unfold S_girderref10_Right
  unfold T_girderref10_Right at hx
  have h := hx
  clear hx
  try dsimp only
  refine newM_s hS ?_; clear hS; intro r1 w hS
  refine ⟨_, (hS.cel mp0 rfl), ?_⟩
  replace h := bnd h
  obtain ⟨t1, ht1, h⟩ := h
  refine wk_girderref10_may H hS  ht1 ?_; clear hS ht1; rintro w hS
  refine ⟨_, rfl, ?_⟩
  refine cond_s h ?_ ?_ <;> clear h <;> intro hc h
  · refine ⟨_, (hS.cel mp0 rfl), ?_⟩
    replace h := bnd h
    obtain ⟨t2, ht2, h⟩ := h
    refine wk_girderref10_may H hS  ht2 ?_; clear hS ht2; rintro w hS
    refine ⟨_, rfl, ?_⟩
    refine cond_s h ?_ ?_ <;> clear h <;> intro hc h
    · refine ⟨_, _, _, (hS.cel mp0 rfl), ?_⟩
      replace h := bnd h
      obtain ⟨t3, ht3, h⟩ := h
      obtain rfl := lenF ht3 ((hq0_2.mono tl1).now (fun _ h => h) hS)
      clear ht3
      refine ⟨_, (hS.cel mp0 rfl), ?_⟩
      refine ⟨_, (hS.cel mp0 rfl), ?_⟩
      have h := some_inj h
      cases h
      exact hK _ (hS.pick (A := [_]) [] rfl)
    · have h := some_inj h
      cases h
      exact hK _ (hS.pick (A := [_]) [] rfl)
  · have h := some_inj h
    cases h
    exact hK _ (hS.pick (A := [_]) [] rfl)

theorem wk_girderref10_At {N : Nums} {P : Program} (H : AllOk N P) {w0 w : World} {L : List It} {q0_0 : Int} {q0_1 : Int} {q0_2 : Option Addr} {q0_2l q0_2c : Nat} {ws0_2 : List Nat} {q1 : Int} {q2 : Int} {u0 : Nat} (hS : Ho w0 w (L)) (hq0_2 : Ent L (rdA (List.map (Value.float .f64) ws0_2) q0_2 q0_2l q0_2c)) (hx : T_girderref10_At q0_0 q0_1 (List.map nf ws0_2) q1 q2 = some u0) {K : Value → World → Prop} (hK : ∀ (z0 : Nat) (w1 : World), nf z0 = u0 → Ho w0 w1 (L) → K (.float .f64 z0) w1) : CallsX P N.f_girderref10_At #[.agg #[.int .i64 q0_0, .int .i64 q0_1, .slice q0_2 q0_2l q0_2c], .int .i64 q1, .int .i64 q2] w K := by
  refine H.girderref10_At q0_0 q0_1 q0_2 q0_2l q0_2c q1 q2 w _ ?_
  unfold S_girderref10_At
  unfold T_girderref10_At at hx
  have h := hx
  clear hx
  try dsimp only
  refine newM_s hS ?_; clear hS; intro r1 w hS
  refine ⟨_, _, _, (hS.cel mp0 rfl), ?_⟩
  refine ⟨_, (hS.cel mp0 rfl), ?_⟩
  replace h := bnd h
  obtain ⟨t1, ht1, h⟩ := h
  obtain ⟨z2, rfl, q3x, q3l, q3r⟩ := atF ht1
  clear ht1
  refine idx_s ((hq0_2.mono tl1).now (fun _ h => h) hS) q3x q3l q3r ?_; intro b4 hb4
  refine ⟨_, rd_get ((hq0_2.mono tl1).now (fun _ h => h) hS) hb4 q3x, ?_⟩
  have h := some_inj h
  cases h
  exact hK _ _ rfl (hS.pick (A := [_]) [] rfl)

theorem wk_girderref01_fields {N : Nums} {P : Program} (H : AllOk N P) {w0 w : World} {L : List It} {q0 : Nat} {u0 : Bool} {u1 : Int} {u2 : Int} (hS : Ho w0 w (L))  (hx : T_girderref01_fields (nf q0) = some (u0, u1, u2)) {K : Value → World → Prop} (hK : ∀  (w1 : World), Ho w0 w1 (L) → K (.tuple #[.bool u0, .int .i64 u1, .int .u64 u2]) w1) : CallsX P N.f_girderref01_fields #[.float .f64 q0] w K := by
  refine H.girderref01_fields q0 w _ ?_
  unfold S_girderref01_fields
  unfold T_girderref01_fields at hx
  have h := hx
  clear hx
  try dsimp only
  replace h := bnd h
  obtain ⟨t1, ht1, h⟩ := h
  refine wk_math_Float64bits H hS  ht1 ?_; clear hS ht1; rintro w hS
  refine ⟨_, rfl, ?_⟩
  refine ⟨by decide, ?_⟩
  refine ⟨by decide, ?_⟩
  refine ⟨by decide, ?_⟩
  refine ⟨by decide, ?_⟩
  have h := some_inj h
  cases h
  exact hK _ hS

theorem wk_girderref01_Kind {N : Nums} {P : Program} (H : AllOk N P) {w0 w : World} {L : List It} {q0 : Nat} {u0 : Int} (hS : Ho w0 w (L))  (hx : T_girderref01_Kind (nf q0) = some u0) {K : Value → World → Prop} (hK : ∀  (w1 : World), Ho w0 w1 (L) → K (.int .i64 u0) w1) : CallsX P N.f_girderref01_Kind #[.float .f64 q0] w K := by
  unfold T_girderref01_Kind at hx
  have hx := some_inj hx
  refine (kind_c H q0 w).mono ?_
  rintro _ w1 ⟨rfl, h1⟩
  have e : (if expF q0 = 2047 then (if fracF q0 = 0 then (3 : Int) else 4) else if expF q0 = 0 then (if fracF q0 = 0 then 0 else 1) else 2) = u0 := by
    rw [← hx]
    cases hn : isNaN q0 with
    | false => rw [nf_of_not hn]
    | true =>
      rw [nf_of_nan hn]
      have e1 : expF qnan = 2047 := by decide +kernel
      have e2 : fracF qnan ≠ 0 := by decide +kernel
      rw [isNaN_fields] at hn
      simp at hn
      simp [hn, e1, e2]
  rw [e]
  exact hK _ (hS.next h1)

theorem wk_girderref01_Nan {N : Nums} {P : Program} (H : AllOk N P) {w0 w : World} {L : List It} {q0 : Nat} {u0 : Bool} (hS : Ho w0 w (L))  (hx : T_girderref01_Nan (nf q0) = some u0) {K : Value → World → Prop} (hK : ∀  (w1 : World), Ho w0 w1 (L) → K (.bool u0) w1) : CallsX P N.f_girderref01_Nan #[.float .f64 q0] w K := by
  refine H.girderref01_Nan q0 w _ ?_
  unfold S_girderref01_Nan
  unfold T_girderref01_Nan at hx
  have h := hx
  clear hx
  try dsimp only
  replace h := bnd h
  obtain ⟨t1, ht1, h⟩ := h
  refine wk_girderref01_Kind H hS  ht1 ?_; clear hS ht1; rintro w hS
  refine ⟨_, rfl, ?_⟩
  have h := some_inj h
  cases h
  exact hK _ hS

theorem wk_girderref01_Same {N : Nums} {P : Program} (H : AllOk N P) {w0 w : World} {L : List It} {q0 : Nat} {q1 : Nat} {u0 : Bool} (hS : Ho w0 w (L))  (hx : T_girderref01_Same (nf q0) (nf q1) = some u0) {K : Value → World → Prop} (hK : ∀  (w1 : World), Ho w0 w1 (L) → K (.bool u0) w1) : CallsX P N.f_girderref01_Same #[.float .f64 q0, .float .f64 q1] w K := by
  unfold T_girderref01_Same at hx
  have hx := some_inj hx
  subst hx
  refine (rSameF_c H q0 q1 w).mono ?_
  rintro _ w1 ⟨rfl, h1⟩
  exact hK _ (hS.next h1)

theorem wk_girderref10_Symmetric {N : Nums} {P : Program} (H : AllOk N P) {w0 w : World} {L : List It} {q0_0 : Int} {q0_1 : Int} {q0_2 : Option Addr} {q0_2l q0_2c : Nat} {ws0_2 : List Nat} {u0 : Bool} (hS : Ho w0 w (L)) (hq0_2 : Ent L (rdA (List.map (Value.float .f64) ws0_2) q0_2 q0_2l q0_2c)) (hx : T_girderref10_Symmetric q0_0 q0_1 (List.map nf ws0_2) = some u0) {K : Value → World → Prop} (hK : ∀  (w1 : World), Ho w0 w1 (L) → K (.bool u0) w1) : CallsX P N.f_girderref10_Symmetric #[.agg #[.int .i64 q0_0, .int .i64 q0_1, .slice q0_2 q0_2l q0_2c]] w K := by
  refine H.girderref10_Symmetric q0_0 q0_1 q0_2 q0_2l q0_2c w _ ?_
  unfold S_girderref10_Symmetric
  unfold T_girderref10_Symmetric at hx
  have h := hx
  clear hx
  try dsimp only
  refine newM_s hS ?_; clear hS; intro r1 w hS
  replace h := bnd h
  obtain ⟨o2, h2, c2⟩ := h
  refine cutM_i (fun s w => ∃ (t1 : Bool), t1 = o2 ∧ s = (t1, ()) ∧ Ho w0 w ((cl r1 [.int .i64 q0_0, .int .i64 q0_1, .slice q0_2 q0_2l q0_2c] N.t_Matrix) :: L)) (fun J2 hJ2 => ?_) ?_
  · have h := h2
    clear h2
    refine ⟨_, (hS.cel mp0 rfl), ?_⟩
    refine ⟨_, (hS.cel mp0 rfl), ?_⟩
    refine ⟨_, _, _, (hS.cel mp0 rfl), ?_⟩
    replace h := bnd h
    obtain ⟨t2, ht2, h⟩ := h
    refine wk_girderref10_Right H hS (hq0_2.mono tl1) ht2 ?_; clear hS ht2; rintro w hS
    refine ⟨_, rfl, ?_⟩
    refine cond_s h ?_ ?_ <;> clear h <;> intro hc h
    · refine ⟨_, (hS.cel mp0 rfl), ?_⟩
      refine ⟨_, (hS.cel mp0 rfl), ?_⟩
      obtain rfl := some_inj h
      exact hJ2 _ _ ⟨_, rfl, rfl, hS⟩
    · obtain rfl := some_inj h
      exact hJ2 _ _ ⟨_, rfl, rfl, hS⟩
  · clear h2 hS
    rintro s w ⟨t1, rfl, rfl, hS⟩
    have h := c2
    clear c2
    try dsimp only
    refine cond_s h ?_ ?_ <;> clear h <;> intro hc h
    · have h := some_inj h
      cases h
      exact hK _ (hS.pick (A := [_]) [] rfl)
    · replace h := bnd h
      obtain ⟨o3, h3, c3⟩ := h
      refine cutM_i (fun s w =>  .inl () = o3 ∧ s = (()) ∧ Ho w0 w (L)) (fun J3 hJ3 => ?_) ?_
      · have h := h3
        clear h3
        refine iter_sim (fun s w t => ∃ (t3 : Int), t3 = t ∧ s = (t3, ()) ∧ Ho w0 w ((cl r1 [.int .i64 q0_0, .int .i64 q0_1, .slice q0_2 q0_2l q0_2c] N.t_Matrix) :: L)) ?_ h ⟨_, rfl, rfl, hS⟩
        clear h hS
        rintro s w t X q ⟨t3, rfl, rfl, hS⟩ h hX hO
        unfold T_girderref10_Symmetric_b5 at h
        try dsimp only
        refine ⟨_, (hS.cel mp0 rfl), ?_⟩
        refine cond_s h ?_ ?_ <;> clear h <;> intro hc h
        · replace h := bnd h
          obtain ⟨o4, h4, c4⟩ := h
          refine cutM_i (fun s w =>  .inl () = o4 ∧ s = (()) ∧ Ho w0 w ((cl r1 [.int .i64 q0_0, .int .i64 q0_1, .slice q0_2 q0_2l q0_2c] N.t_Matrix) :: L)) (fun J4 hJ4 => ?_) ?_
          · have h := h4
            clear h4
            refine iter_sim (fun s w t => ∃ (t4 : Int), t4 = t ∧ s = (t4, ()) ∧ Ho w0 w ((cl r1 [.int .i64 q0_0, .int .i64 q0_1, .slice q0_2 q0_2l q0_2c] N.t_Matrix) :: L)) ?_ h ⟨_, rfl, rfl, hS⟩
            clear h hS
            rintro s w t X q ⟨t4, rfl, rfl, hS⟩ h hX hO
            unfold T_girderref10_Symmetric_b7 at h
            try dsimp only
            refine cond_s h ?_ ?_ <;> clear h <;> intro hc h
            · refine ⟨_, (hS.cel mp0 rfl), ?_⟩
              refine ⟨_, (hS.cel mp0 rfl), ?_⟩
              refine ⟨_, _, _, (hS.cel mp0 rfl), ?_⟩
              refine ⟨_, (hS.cel mp0 rfl), ?_⟩
              refine ⟨_, (hS.cel mp0 rfl), ?_⟩
              refine ⟨_, _, _, (hS.cel mp0 rfl), ?_⟩
              refine drM_s hS ?_; clear hS; intro w hS
              replace h := bnd h
              obtain ⟨t5, ht5, h⟩ := h
              refine wk_girderref10_At H hS (hq0_2.mono tl1) ht5 ?_; clear hS ht5; rintro z5 w rfl hS
              refine ⟨_, rfl, ?_⟩
              refine ⟨(hS.cel mp0 rfl), ?_⟩
              refine ⟨(hS.cel mp0 rfl), ?_⟩
              refine ⟨(hS.cel mp0 rfl), ?_⟩
              refine drM_s hS ?_; clear hS; intro w hS
              replace h := bnd h
              obtain ⟨t6, ht6, h⟩ := h
              refine wk_girderref10_At H hS (hq0_2.mono tl1) ht6 ?_; clear hS ht6; rintro z6 w rfl hS
              refine ⟨_, rfl, ?_⟩
              refine drM_s hS ?_; clear hS; intro w hS
              replace h := bnd h
              obtain ⟨t7, ht7, h⟩ := h
              refine wk_girderref01_Same H hS  ht7 ?_; clear hS ht7; rintro w hS
              refine ⟨_, rfl, ?_⟩
              refine drM_s hS ?_; clear hS; intro w hS
              refine cond_s h ?_ ?_ <;> clear h <;> intro hc h
              · obtain rfl := some_inj h
                have h := congrArg some (hO _ rfl)
                obtain rfl := some_inj h
                have h := c4
                obtain rfl := some_inj h
                have h := congrArg some (hO _ rfl)
                obtain rfl := some_inj h
                have h := c3
                have h := some_inj h
                cases h
                exact hK _ (hS.pick (A := [_]) [] rfl)
              · obtain rfl := some_inj h
                exact hX _ rfl _ _ ⟨_, rfl, rfl, hS⟩
            · obtain rfl := some_inj h
              have h := congrArg some (hO _ rfl)
              obtain rfl := some_inj h
              exact hJ4 _ _ ⟨rfl, rfl, hS⟩
          · clear h4 hS
            rintro s w ⟨rfl, rfl, hS⟩
            have h := c4
            clear c4
            try dsimp only
            obtain rfl := some_inj h
            exact hX _ rfl _ _ ⟨_, rfl, rfl, hS⟩
        · obtain rfl := some_inj h
          have h := congrArg some (hO _ rfl)
          obtain rfl := some_inj h
          exact hJ3 _ _ ⟨rfl, rfl, (hS.pick (A := [_]) [] rfl)⟩
      · clear h3 hS
        rintro s w ⟨rfl, rfl, hS⟩
        have h := c3
        clear c3
        try dsimp only
        have h := some_inj h
        cases h
        exact hK _ hS

theorem wk_girderref03_Finite {N : Nums} {P : Program} (H : AllOk N P) {w0 w : World} {L : List It} {q0 : Nat} {u0 : Bool} (hS : Ho w0 w (L))  (hx : T_girderref03_Finite (nf q0) = some u0) {K : Value → World → Prop} (hK : ∀  (w1 : World), Ho w0 w1 (L) → K (.bool u0) w1) : CallsX P N.f_girderref03_Finite #[.float .f64 q0] w K := by
  refine H.girderref03_Finite q0 w _ ?_
  unfold S_girderref03_Finite
  unfold T_girderref03_Finite at hx
  have h := hx
  clear hx
  try dsimp only
  replace h := bnd h
  obtain ⟨t1, ht1, h⟩ := h
  refine fsub_s ht1 hS ?_; clear hS ht1; rintro z1 w rfl hS
  replace h := bnd h
  obtain ⟨t2, ht2, h⟩ := h
  obtain rfl := feq_s ht2
  clear ht2
  have h := some_inj h
  cases h
  exact hK _ hS

theorem wk_girderref12_At {N : Nums} {P : Program} (H : AllOk N P) {w0 w : World} {L : List It} {q0 : Option Addr} {q0l q0c : Nat} {ws0 : List Nat} {q1 : Int} {q2 : Int} {u0 : Nat} (hS : Ho w0 w (L)) (hq0 : Ent L (rdA (List.map (Value.float .f64) ws0) q0 q0l q0c)) (hx : T_girderref12_At (List.map nf ws0) q1 q2 = some u0) {K : Value → World → Prop} (hK : ∀ (z0 : Nat) (w1 : World), nf z0 = u0 → Ho w0 w1 (L) → K (.float .f64 z0) w1) : CallsX P N.f_girderref12_At #[.slice q0 q0l q0c, .int .i64 q1, .int .i64 q2] w K := by
  refine H.girderref12_At q0 q0l q0c q1 q2 w _ ?_
  unfold S_girderref12_At
  unfold T_girderref12_At at hx
  have h := hx
  clear hx
  try dsimp only
  refine cond_s h ?_ ?_ <;> clear h <;> intro hc h
  · have h := some_inj h
    cases h
    exact hK _ _ rfl hS
  · refine ⟨by decide, ?_⟩
    replace h := bnd h
    obtain ⟨t1, ht1, h⟩ := h
    obtain ⟨z1, rfl, q2x, q2l, q2r⟩ := atF ht1
    clear ht1
    refine idx_s (hq0.now (fun _ h => h) hS) q2x q2l q2r ?_; intro b3 hb3
    refine ⟨_, rd_get (hq0.now (fun _ h => h) hS) hb3 q2x, ?_⟩
    have h := some_inj h
    cases h
    exact hK _ _ rfl hS

theorem wk_girderref12_Factor {N : Nums} {P : Program} (H : AllOk N P) {w0 w : World} {L : List It} {q0_0 : Int} {q0_1 : Int} {q0_2 : Option Addr} {q0_2l q0_2c : Nat} {ws0_2 : List Nat} {u0 : Int} {u1 : List Nat} {u2 : List Nat} {u3 : Int} {u4 : Int} (hS : Ho w0 w (L)) (hq0_2 : Ent L (rdA (List.map (Value.float .f64) ws0_2) q0_2 q0_2l q0_2c)) (hx : T_girderref12_Factor q0_0 q0_1 (List.map nf ws0_2) = some (u0, u1, u2, u3, u4)) {K : Value → World → Prop} (hK : ∀ (a1 : Option Addr) (n1 c1 : Nat) (rws1 : List Nat) (a2 : Option Addr) (n2 c2 : Nat) (rws2 : List Nat) (w1 : World), List.map nf rws1 = u1 → List.map nf rws2 = u2 → Ho w0 w1 ((sl a1 n1 c1 (List.map (Value.float .f64) rws1) N.t_float64) :: (sl a2 n2 c2 (List.map (Value.float .f64) rws2) N.t_float64) :: L) → K (.tuple #[.agg #[.int .i64 u0, .slice a1 n1 c1, .slice a2 n2 c2], .int .i64 u3, .int .i64 u4]) w1) : CallsX P N.f_girderref12_Factor #[.agg #[.int .i64 q0_0, .int .i64 q0_1, .slice q0_2 q0_2l q0_2c]] w K := by
  refine H.girderref12_Factor q0_0 q0_1 q0_2 q0_2l q0_2c w _ ?_
  unfold S_girderref12_Factor
  unfold T_girderref12_Factor at hx
  have h := hx
  clear hx
  try dsimp only
  refine newM_s hS ?_; clear hS; intro r1 w hS
  refine newM_s hS ?_; clear hS; intro r2 w hS
  refine newM_s hS ?_; clear hS; intro r3 w hS
  refine stc_s hS rfl rfl ?_; clear hS; intro w hS
  refine stc_s hS rfl rfl ?_; clear hS; intro w hS
  refine stc_s hS rfl rfl ?_; clear hS; intro w hS
  refine ⟨_, (hS.cel mp2 rfl), ?_⟩
  refine ⟨_, (hS.cel mp2 rfl), ?_⟩
  refine ⟨_, _, _, (hS.cel mp2 rfl), ?_⟩
  replace h := bnd h
  obtain ⟨t1, ht1, h⟩ := h
  refine wk_girderref10_Symmetric H hS (hq0_2.mono tl3) ht1 ?_; clear hS ht1; rintro w hS
  refine ⟨_, rfl, ?_⟩
  refine cond_s h ?_ ?_ <;> clear h <;> intro hc h
  · refine ⟨_, (hS.cel mp0 rfl), ?_⟩
    refine ⟨_, _, _, (hS.cel mp0 rfl), ?_⟩
    refine ⟨_, _, _, (hS.cel mp0 rfl), ?_⟩
    replace hS := ro1 hS
    refine stc_s hS rfl rfl ?_; clear hS; intro w hS
    refine stc_s hS rfl rfl ?_; clear hS; intro w hS
    refine stc_s hS rfl rfl ?_; clear hS; intro w hS
    refine ⟨_, (hS.cel mp0 rfl), ?_⟩
    refine ⟨_, _, _, (hS.cel mp0 rfl), ?_⟩
    refine ⟨_, _, _, (hS.cel mp0 rfl), ?_⟩
    replace hS := hS.none (α := Nat) (enc := (Value.float .f64)) (t := N.t_float64)
    replace hS := hS.none (α := Nat) (enc := (Value.float .f64)) (t := N.t_float64)
    have h := some_inj h
    cases h
    exact hK _ _ _ _ _ _ _ _ _ rfl rfl (hS.pick (A := [_, _, _, _, _]) [1, 0] rfl)
  · replace h := bnd h
    obtain ⟨o4, h4, c4⟩ := h
    refine cutM_i (fun s w =>  .inl () = o4 ∧ s = (()) ∧ Ho w0 w ((cl r3 [.int .i64 0, .slice none 0 0, .slice none 0 0] N.t_Factor) :: (cl r2 [.int .i64 0, .slice none 0 0, .slice none 0 0] N.t_Factor) :: (cl r1 [.int .i64 q0_0, .int .i64 q0_1, .slice q0_2 q0_2l q0_2c] N.t_Matrix) :: L)) (fun J4 hJ4 => ?_) ?_
    · have h := h4
      clear h4
      refine iter_sim (fun s w t => ∃ (t2 : Int), t2 = t ∧ s = (t2, ()) ∧ Ho w0 w ((cl r3 [.int .i64 0, .slice none 0 0, .slice none 0 0] N.t_Factor) :: (cl r2 [.int .i64 0, .slice none 0 0, .slice none 0 0] N.t_Factor) :: (cl r1 [.int .i64 q0_0, .int .i64 q0_1, .slice q0_2 q0_2l q0_2c] N.t_Matrix) :: L)) ?_ h ⟨_, rfl, rfl, hS⟩
      clear h hS
      rintro s w t X q ⟨t2, rfl, rfl, hS⟩ h hX hO
      unfold T_girderref12_Factor_b2 at h
      try dsimp only
      refine ⟨_, _, _, (hS.cel mp2 rfl), ?_⟩
      replace h := bnd h
      obtain ⟨t3, ht3, h⟩ := h
      obtain rfl := lenF ht3 ((hq0_2.mono tl3).now (fun _ h => h) hS)
      clear ht3
      refine cond_s h ?_ ?_ <;> clear h <;> intro hc h
      · refine ⟨_, _, _, (hS.cel mp2 rfl), ?_⟩
        replace h := bnd h
        obtain ⟨t4, ht4, h⟩ := h
        obtain ⟨z5, rfl, q6x, q6l, q6r⟩ := atF ht4
        clear ht4
        refine idx_s ((hq0_2.mono tl3).now (fun _ h => h) hS) q6x q6l q6r ?_; intro b7 hb7
        refine ⟨_, rd_get ((hq0_2.mono tl3).now (fun _ h => h) hS) hb7 q6x, ?_⟩
        replace h := bnd h
        obtain ⟨t5, ht5, h⟩ := h
        refine wk_girderref03_Finite H hS  ht5 ?_; clear hS ht5; rintro w hS
        refine ⟨_, rfl, ?_⟩
        refine cond_s h ?_ ?_ <;> clear h <;> intro hc h
        · refine ⟨_, (hS.cel mp0 rfl), ?_⟩
          refine ⟨_, _, _, (hS.cel mp0 rfl), ?_⟩
          refine ⟨_, _, _, (hS.cel mp0 rfl), ?_⟩
          replace hS := ro1 hS
          refine stc_s hS rfl rfl ?_; clear hS; intro w hS
          refine stc_s hS rfl rfl ?_; clear hS; intro w hS
          refine stc_s hS rfl rfl ?_; clear hS; intro w hS
          obtain rfl := some_inj h
          have h := congrArg some (hO _ rfl)
          obtain rfl := some_inj h
          have h := c4
          refine ⟨_, (hS.cel mp0 rfl), ?_⟩
          refine ⟨_, _, _, (hS.cel mp0 rfl), ?_⟩
          refine ⟨_, _, _, (hS.cel mp0 rfl), ?_⟩
          replace hS := hS.none (α := Nat) (enc := (Value.float .f64)) (t := N.t_float64)
          replace hS := hS.none (α := Nat) (enc := (Value.float .f64)) (t := N.t_float64)
          have h := some_inj h
          cases h
          exact hK _ _ _ _ _ _ _ _ _ rfl rfl (hS.pick (A := [_, _, _, _, _]) [1, 0] rfl)
        · obtain rfl := some_inj h
          exact hX _ rfl _ _ ⟨_, rfl, rfl, hS⟩
      · obtain rfl := some_inj h
        have h := congrArg some (hO _ rfl)
        obtain rfl := some_inj h
        exact hJ4 _ _ ⟨rfl, rfl, hS⟩
    · clear h4 hS
      rintro s w ⟨rfl, rfl, hS⟩
      have h := c4
      clear c4
      try dsimp only
      refine ⟨_, (hS.cel mp2 rfl), ?_⟩
      refine ⟨by decide, ?_⟩
      replace h := bnd h
      obtain ⟨t6, ht6, h⟩ := h
      obtain ⟨rfl, kt6⟩ := mkF ht6
      clear ht6
      refine mk_s (enc := (Value.float .f64)) hS kt6 rfl ?_; clear hS kt6; intro r8 w hS
      replace h := bnd h
      obtain ⟨t7, ht7, h⟩ := h
      obtain ⟨rfl, kt7⟩ := mkF ht7
      clear ht7
      refine mk_s (enc := (Value.float .f64)) hS kt7 rfl ?_; clear hS kt7; intro r9 w hS
      replace h := bnd h
      obtain ⟨o12, h12, c12⟩ := h
      refine cutM_i (fun s w => ∃ (ws10 : List Nat) (ws11 : List Nat), .inl ((List.map nf ws10), (List.map nf ws11)) = o12 ∧ s = (()) ∧ Ho w0 w ((sl (some ⟨r9, 0, none⟩) ((q0_0).toNat) ((q0_0).toNat) (List.map (Value.float .f64) ws10) N.t_float64) :: (sl (some ⟨r8, 0, none⟩) (((IntKind.i64.wrap ((IntKind.i64.wrap (q0_0 * (IntKind.i64.wrap (q0_0 - 1)))).tdiv 2))).toNat) (((IntKind.i64.wrap ((IntKind.i64.wrap (q0_0 * (IntKind.i64.wrap (q0_0 - 1)))).tdiv 2))).toNat) (List.map (Value.float .f64) ws11) N.t_float64) :: (cl r2 [.int .i64 0, .slice none 0 0, .slice none 0 0] N.t_Factor) :: L)) (fun J12 hJ12 => ?_) ?_
      · have h := h12
        clear h12
        refine iter_sim (fun s w t => ∃ (t10 : Int) (ws13 : List Nat) (ws14 : List Nat), (t10, (List.map nf ws13), (List.map nf ws14)) = t ∧ s = (t10, ()) ∧ Ho w0 w ((sl (some ⟨r9, 0, none⟩) ((q0_0).toNat) ((q0_0).toNat) (List.map (Value.float .f64) ws13) N.t_float64) :: (sl (some ⟨r8, 0, none⟩) (((IntKind.i64.wrap ((IntKind.i64.wrap (q0_0 * (IntKind.i64.wrap (q0_0 - 1)))).tdiv 2))).toNat) (((IntKind.i64.wrap ((IntKind.i64.wrap (q0_0 * (IntKind.i64.wrap (q0_0 - 1)))).tdiv 2))).toNat) (List.map (Value.float .f64) ws14) N.t_float64) :: (cl r3 [.int .i64 0, .slice none 0 0, .slice none 0 0] N.t_Factor) :: (cl r2 [.int .i64 0, .slice none 0 0, .slice none 0 0] N.t_Factor) :: (cl r1 [.int .i64 q0_0, .int .i64 q0_1, .slice q0_2 q0_2l q0_2c] N.t_Matrix) :: L)) ?_ h ⟨_, _, _, rfl, rfl, hS⟩
        clear h hS
        rintro s w t X q ⟨t10, ws13, ws14, rfl, rfl, hS⟩ h hX hO
        unfold T_girderref12_Factor_b29 at h
        try dsimp only
        refine cond_s h ?_ ?_ <;> clear h <;> intro hc h
        · replace h := bnd h
          obtain ⟨t13, ht13, h⟩ := h
          obtain ⟨rfl, kt13⟩ := mkF ht13
          clear ht13
          refine mk_s (enc := (Value.float .f64)) hS kt13 rfl ?_; clear hS kt13; intro r15 w hS
          replace h := bnd h
          obtain ⟨o17, h17, c17⟩ := h
          refine cutM_i (fun s w => ∃ (ws16 : List Nat), (List.map nf ws16) = o17 ∧ s = (()) ∧ Ho w0 w ((sl (some ⟨r15, 0, none⟩) ((t10).toNat) ((t10).toNat) (List.map (Value.float .f64) ws16) N.t_float64) :: (sl (some ⟨r9, 0, none⟩) ((q0_0).toNat) ((q0_0).toNat) (List.map (Value.float .f64) ws13) N.t_float64) :: (sl (some ⟨r8, 0, none⟩) (((IntKind.i64.wrap ((IntKind.i64.wrap (q0_0 * (IntKind.i64.wrap (q0_0 - 1)))).tdiv 2))).toNat) (((IntKind.i64.wrap ((IntKind.i64.wrap (q0_0 * (IntKind.i64.wrap (q0_0 - 1)))).tdiv 2))).toNat) (List.map (Value.float .f64) ws14) N.t_float64) :: (cl r3 [.int .i64 0, .slice none 0 0, .slice none 0 0] N.t_Factor) :: (cl r2 [.int .i64 0, .slice none 0 0, .slice none 0 0] N.t_Factor) :: (cl r1 [.int .i64 q0_0, .int .i64 q0_1, .slice q0_2 q0_2l q0_2c] N.t_Matrix) :: L)) (fun J17 hJ17 => ?_) ?_
          · have h := h17
            clear h17
            refine iter_sim (fun s w t => ∃ (t15 : Int) (ws18 : List Nat), (t15, (List.map nf ws18)) = t ∧ s = (t15, ()) ∧ Ho w0 w ((sl (some ⟨r15, 0, none⟩) ((t10).toNat) ((t10).toNat) (List.map (Value.float .f64) ws18) N.t_float64) :: (sl (some ⟨r9, 0, none⟩) ((q0_0).toNat) ((q0_0).toNat) (List.map (Value.float .f64) ws13) N.t_float64) :: (sl (some ⟨r8, 0, none⟩) (((IntKind.i64.wrap ((IntKind.i64.wrap (q0_0 * (IntKind.i64.wrap (q0_0 - 1)))).tdiv 2))).toNat) (((IntKind.i64.wrap ((IntKind.i64.wrap (q0_0 * (IntKind.i64.wrap (q0_0 - 1)))).tdiv 2))).toNat) (List.map (Value.float .f64) ws14) N.t_float64) :: (cl r3 [.int .i64 0, .slice none 0 0, .slice none 0 0] N.t_Factor) :: (cl r2 [.int .i64 0, .slice none 0 0, .slice none 0 0] N.t_Factor) :: (cl r1 [.int .i64 q0_0, .int .i64 q0_1, .slice q0_2 q0_2l q0_2c] N.t_Matrix) :: L)) ?_ h ⟨_, _, rfl, rfl, hS⟩
            clear h hS
            rintro s w t X q ⟨t15, ws18, rfl, rfl, hS⟩ h hX hO
            unfold T_girderref12_Factor_b31 at h
            try dsimp only
            refine cond_s h ?_ ?_ <;> clear h <;> intro hc h
            · replace h := bnd h
              obtain ⟨t17, ht17, h⟩ := h
              obtain ⟨z19, rfl, q20x, q20l, q20r⟩ := atF ht17
              clear ht17
              refine idy_s ((Ent.sl mp1).now (fun _ h => h) hS) q20x q20l q20r ?_
              refine ⟨_, rd_get ((Ent.sl mp1).now (fun _ h => h) hS) rfl q20x, ?_⟩
              refine drM_s hS ?_; clear hS; intro w hS
              replace h := bnd h
              obtain ⟨t18, ht18, h⟩ := h
              refine wk_girderref12_At H hS (Ent.sl mp2) ht18 ?_; clear hS ht18; rintro z22 w rfl hS
              refine ⟨_, rfl, ?_⟩
              refine ⟨rd_get ((Ent.sl mp1).now (fun _ h => h) hS) rfl q20x, ?_⟩
              replace h := bnd h
              obtain ⟨t19, ht19, h⟩ := h
              refine fmul_s ht19 hS ?_; clear ht19; rintro z23 _ rfl _
              replace h := bnd h
              obtain ⟨t20, ht20, h⟩ := h
              obtain ⟨z24, rfl, q25x, q25l, q25r⟩ := atF ht20
              clear ht20
              refine idy_s ((Ent.sl mp0).now (fun _ h => h) hS) q25x q25l q25r ?_
              refine drM_s hS ?_; clear hS; intro w hS
              replace h := bnd h
              obtain ⟨t21, ht21, h⟩ := h
              obtain rfl := setF ht21
              clear ht21
              refine sto_s hS rfl q25r ?_; clear hS; intro w hS
              refine drM_s hS ?_; clear hS; intro w hS
              obtain rfl := some_inj h
              exact hX _ rfl _ _ ⟨_, _, rfl, rfl, hS⟩
            · obtain rfl := some_inj h
              have h := congrArg some (hO _ rfl)
              obtain rfl := some_inj h
              exact hJ17 _ _ ⟨_, rfl, rfl, hS⟩
          · clear h17 hS
            rintro s w ⟨ws16, rfl, rfl, hS⟩
            have h := c17
            clear c17
            try dsimp only
            replace h := bnd h
            obtain ⟨o29, h29, c29⟩ := h
            refine cutM_i (fun s w => ∃ (ws27 : List Nat) (ws28 : List Nat), .inl ((List.map nf ws27), (List.map nf ws28)) = o29 ∧ s = (()) ∧ Ho w0 w ((sl (some ⟨r9, 0, none⟩) ((q0_0).toNat) ((q0_0).toNat) (List.map (Value.float .f64) ws27) N.t_float64) :: (sl (some ⟨r8, 0, none⟩) (((IntKind.i64.wrap ((IntKind.i64.wrap (q0_0 * (IntKind.i64.wrap (q0_0 - 1)))).tdiv 2))).toNat) (((IntKind.i64.wrap ((IntKind.i64.wrap (q0_0 * (IntKind.i64.wrap (q0_0 - 1)))).tdiv 2))).toNat) (List.map (Value.float .f64) ws28) N.t_float64) :: (cl r3 [.int .i64 0, .slice none 0 0, .slice none 0 0] N.t_Factor) :: (cl r2 [.int .i64 0, .slice none 0 0, .slice none 0 0] N.t_Factor) :: (cl r1 [.int .i64 q0_0, .int .i64 q0_1, .slice q0_2 q0_2l q0_2c] N.t_Matrix) :: L)) (fun J29 hJ29 => ?_) ?_
            · have h := h29
              clear h29
              refine iter_sim (fun s w t => ∃ (t24 : Int) (ws30 : List Nat) (ws31 : List Nat), (t24, (List.map nf ws30), (List.map nf ws31)) = t ∧ s = (t24, ()) ∧ Ho w0 w ((sl (some ⟨r15, 0, none⟩) ((t10).toNat) ((t10).toNat) (List.map (Value.float .f64) ws16) N.t_float64) :: (sl (some ⟨r9, 0, none⟩) ((q0_0).toNat) ((q0_0).toNat) (List.map (Value.float .f64) ws30) N.t_float64) :: (sl (some ⟨r8, 0, none⟩) (((IntKind.i64.wrap ((IntKind.i64.wrap (q0_0 * (IntKind.i64.wrap (q0_0 - 1)))).tdiv 2))).toNat) (((IntKind.i64.wrap ((IntKind.i64.wrap (q0_0 * (IntKind.i64.wrap (q0_0 - 1)))).tdiv 2))).toNat) (List.map (Value.float .f64) ws31) N.t_float64) :: (cl r3 [.int .i64 0, .slice none 0 0, .slice none 0 0] N.t_Factor) :: (cl r2 [.int .i64 0, .slice none 0 0, .slice none 0 0] N.t_Factor) :: (cl r1 [.int .i64 q0_0, .int .i64 q0_1, .slice q0_2 q0_2l q0_2c] N.t_Matrix) :: L)) ?_ h ⟨_, _, _, rfl, rfl, hS⟩
              clear h hS
              rintro s w t X q ⟨t24, ws30, ws31, rfl, rfl, hS⟩ h hX hO
              unfold T_girderref12_Factor_b38 at h
              try dsimp only
              refine cond_s h ?_ ?_ <;> clear h <;> intro hc h
              · replace h := bnd h
                obtain ⟨o34, h34, c34⟩ := h
                refine cutM_i (fun s w => ∃ (ws32 : List Nat) (ws33 : List Nat), .inl ((List.map nf ws32), (List.map nf ws33)) = o34 ∧ s = (()) ∧ Ho w0 w ((sl (some ⟨r9, 0, none⟩) ((q0_0).toNat) ((q0_0).toNat) (List.map (Value.float .f64) ws32) N.t_float64) :: (sl (some ⟨r15, 0, none⟩) ((t10).toNat) ((t10).toNat) (List.map (Value.float .f64) ws16) N.t_float64) :: (sl (some ⟨r8, 0, none⟩) (((IntKind.i64.wrap ((IntKind.i64.wrap (q0_0 * (IntKind.i64.wrap (q0_0 - 1)))).tdiv 2))).toNat) (((IntKind.i64.wrap ((IntKind.i64.wrap (q0_0 * (IntKind.i64.wrap (q0_0 - 1)))).tdiv 2))).toNat) (List.map (Value.float .f64) ws33) N.t_float64) :: (cl r3 [.int .i64 0, .slice none 0 0, .slice none 0 0] N.t_Factor) :: (cl r2 [.int .i64 0, .slice none 0 0, .slice none 0 0] N.t_Factor) :: (cl r1 [.int .i64 q0_0, .int .i64 q0_1, .slice q0_2 q0_2l q0_2c] N.t_Matrix) :: L)) (fun J34 hJ34 => ?_) ?_
                · have h := h34
                  clear h34
                  refine ⟨_, _, _, (hS.cel mp5 rfl), ?_⟩
                  replace h := bnd h
                  obtain ⟨t29, ht29, h⟩ := h
                  obtain ⟨z35, rfl, q36x, q36l, q36r⟩ := atF ht29
                  clear ht29
                  refine idx_s ((hq0_2.mono tl6).now (fun _ h => h) hS) q36x q36l q36r ?_; intro b37 hb37
                  refine ⟨_, rd_get ((hq0_2.mono tl6).now (fun _ h => h) hS) hb37 q36x, ?_⟩
                  replace h := bnd h
                  obtain ⟨o39, h39, c39⟩ := h
                  refine cutM_i (fun s w => ∃ (z38 : Nat), (nf z38) = o39 ∧ s = (z38, ()) ∧ Ho w0 w ((sl (some ⟨r15, 0, none⟩) ((t10).toNat) ((t10).toNat) (List.map (Value.float .f64) ws16) N.t_float64) :: (sl (some ⟨r9, 0, none⟩) ((q0_0).toNat) ((q0_0).toNat) (List.map (Value.float .f64) ws30) N.t_float64) :: (sl (some ⟨r8, 0, none⟩) (((IntKind.i64.wrap ((IntKind.i64.wrap (q0_0 * (IntKind.i64.wrap (q0_0 - 1)))).tdiv 2))).toNat) (((IntKind.i64.wrap ((IntKind.i64.wrap (q0_0 * (IntKind.i64.wrap (q0_0 - 1)))).tdiv 2))).toNat) (List.map (Value.float .f64) ws31) N.t_float64) :: (cl r3 [.int .i64 0, .slice none 0 0, .slice none 0 0] N.t_Factor) :: (cl r2 [.int .i64 0, .slice none 0 0, .slice none 0 0] N.t_Factor) :: (cl r1 [.int .i64 q0_0, .int .i64 q0_1, .slice q0_2 q0_2l q0_2c] N.t_Matrix) :: L)) (fun J39 hJ39 => ?_) ?_
                  · have h := h39
                    clear h39
                    refine iter_sim (fun s w t => ∃ (z40 : Nat) (t32 : Int), ((nf z40), t32) = t ∧ s = (z40, t32, ()) ∧ Ho w0 w ((sl (some ⟨r15, 0, none⟩) ((t10).toNat) ((t10).toNat) (List.map (Value.float .f64) ws16) N.t_float64) :: (sl (some ⟨r9, 0, none⟩) ((q0_0).toNat) ((q0_0).toNat) (List.map (Value.float .f64) ws30) N.t_float64) :: (sl (some ⟨r8, 0, none⟩) (((IntKind.i64.wrap ((IntKind.i64.wrap (q0_0 * (IntKind.i64.wrap (q0_0 - 1)))).tdiv 2))).toNat) (((IntKind.i64.wrap ((IntKind.i64.wrap (q0_0 * (IntKind.i64.wrap (q0_0 - 1)))).tdiv 2))).toNat) (List.map (Value.float .f64) ws31) N.t_float64) :: (cl r3 [.int .i64 0, .slice none 0 0, .slice none 0 0] N.t_Factor) :: (cl r2 [.int .i64 0, .slice none 0 0, .slice none 0 0] N.t_Factor) :: (cl r1 [.int .i64 q0_0, .int .i64 q0_1, .slice q0_2 q0_2l q0_2c] N.t_Matrix) :: L)) ?_ h ⟨_, _, rfl, rfl, hS⟩
                    clear h hS
                    rintro s w t X q ⟨z40, t32, rfl, rfl, hS⟩ h hX hO
                    unfold T_girderref12_Factor_b41 at h
                    try dsimp only
                    refine cond_s h ?_ ?_ <;> clear h <;> intro hc h
                    · replace h := bnd h
                      obtain ⟨t33, ht33, h⟩ := h
                      obtain ⟨z41, rfl, q42x, q42l, q42r⟩ := atF ht33
                      clear ht33
                      refine idy_s ((Ent.sl mp0).now (fun _ h => h) hS) q42x q42l q42r ?_
                      refine ⟨_, rd_get ((Ent.sl mp0).now (fun _ h => h) hS) rfl q42x, ?_⟩
                      refine drM_s hS ?_; clear hS; intro w hS
                      replace h := bnd h
                      obtain ⟨t34, ht34, h⟩ := h
                      refine wk_girderref12_At H hS (Ent.sl mp2) ht34 ?_; clear hS ht34; rintro z44 w rfl hS
                      refine ⟨_, rfl, ?_⟩
                      refine ⟨rd_get ((Ent.sl mp0).now (fun _ h => h) hS) rfl q42x, ?_⟩
                      replace h := bnd h
                      obtain ⟨t35, ht35, h⟩ := h
                      refine fmul_s ht35 hS ?_; clear ht35; rintro z45 _ rfl _
                      refine drM_s hS ?_; clear hS; intro w hS
                      replace h := bnd h
                      obtain ⟨t36, ht36, h⟩ := h
                      refine fsub_s ht36 hS ?_; clear hS ht36; rintro z46 w rfl hS
                      obtain rfl := some_inj h
                      exact hX _ rfl _ _ ⟨_, _, rfl, rfl, hS⟩
                    · obtain rfl := some_inj h
                      have h := congrArg some (hO _ rfl)
                      obtain rfl := some_inj h
                      exact hJ39 _ _ ⟨_, rfl, rfl, hS⟩
                  · clear h39 hS
                    rintro s w ⟨z38, rfl, rfl, hS⟩
                    have h := c39
                    clear c39
                    try dsimp only
                    refine cond_s h ?_ ?_ <;> clear h <;> intro hc h
                    · replace h := bnd h
                      obtain ⟨t37, ht37, h⟩ := h
                      obtain rfl := fgt_s ht37
                      clear ht37
                      refine cond_s h ?_ ?_ <;> clear h <;> intro hc h
                      · replace h := bnd h
                        obtain ⟨t38, ht38, h⟩ := h
                        refine wk_girderref03_Finite H hS  ht38 ?_; clear hS ht38; rintro w hS
                        refine ⟨_, rfl, ?_⟩
                        refine cond_s h ?_ ?_ <;> clear h <;> intro hc h
                        · refine ⟨_, (hS.cel mp3 rfl), ?_⟩
                          refine ⟨_, _, _, (hS.cel mp3 rfl), ?_⟩
                          refine ⟨_, _, _, (hS.cel mp3 rfl), ?_⟩
                          replace hS := ro4 hS
                          refine stc_s hS rfl rfl ?_; clear hS; intro w hS
                          refine stc_s hS rfl rfl ?_; clear hS; intro w hS
                          refine stc_s hS rfl rfl ?_; clear hS; intro w hS
                          obtain rfl := some_inj h
                          have h := c34
                          obtain rfl := some_inj h
                          have h := congrArg some (hO _ rfl)
                          obtain rfl := some_inj h
                          have h := c29
                          obtain rfl := some_inj h
                          have h := congrArg some (hO _ rfl)
                          obtain rfl := some_inj h
                          have h := c12
                          refine ⟨_, (hS.cel mp0 rfl), ?_⟩
                          refine ⟨_, _, _, (hS.cel mp0 rfl), ?_⟩
                          refine ⟨_, _, _, (hS.cel mp0 rfl), ?_⟩
                          replace hS := hS.none (α := Nat) (enc := (Value.float .f64)) (t := N.t_float64)
                          replace hS := hS.none (α := Nat) (enc := (Value.float .f64)) (t := N.t_float64)
                          have h := some_inj h
                          cases h
                          exact hK _ _ _ _ _ _ _ _ _ rfl rfl (hS.pick (A := [_, _, _, _, _, _, _, _]) [1, 0] rfl)
                        · replace h := bnd h
                          obtain ⟨t39, ht39, h⟩ := h
                          obtain ⟨z47, rfl, q48x, q48l, q48r⟩ := atF ht39
                          clear ht39
                          refine idy_s ((Ent.sl mp1).now (fun _ h => h) hS) q48x q48l q48r ?_
                          replace hS := ro1 hS
                          replace h := bnd h
                          obtain ⟨t40, ht40, h⟩ := h
                          obtain rfl := setF ht40
                          clear ht40
                          refine sto_s hS rfl q48r ?_; clear hS; intro w hS
                          obtain rfl := some_inj h
                          exact hJ34 _ _ ⟨_, _, rfl, rfl, hS⟩
                      · refine ⟨_, (hS.cel mp3 rfl), ?_⟩
                        refine ⟨_, _, _, (hS.cel mp3 rfl), ?_⟩
                        refine ⟨_, _, _, (hS.cel mp3 rfl), ?_⟩
                        replace hS := ro4 hS
                        refine stc_s hS rfl rfl ?_; clear hS; intro w hS
                        refine stc_s hS rfl rfl ?_; clear hS; intro w hS
                        refine stc_s hS rfl rfl ?_; clear hS; intro w hS
                        obtain rfl := some_inj h
                        have h := c34
                        obtain rfl := some_inj h
                        have h := congrArg some (hO _ rfl)
                        obtain rfl := some_inj h
                        have h := c29
                        obtain rfl := some_inj h
                        have h := congrArg some (hO _ rfl)
                        obtain rfl := some_inj h
                        have h := c12
                        refine ⟨_, (hS.cel mp0 rfl), ?_⟩
                        refine ⟨_, _, _, (hS.cel mp0 rfl), ?_⟩
                        refine ⟨_, _, _, (hS.cel mp0 rfl), ?_⟩
                        replace hS := hS.none (α := Nat) (enc := (Value.float .f64)) (t := N.t_float64)
                        replace hS := hS.none (α := Nat) (enc := (Value.float .f64)) (t := N.t_float64)
                        have h := some_inj h
                        cases h
                        exact hK _ _ _ _ _ _ _ _ _ rfl rfl (hS.pick (A := [_, _, _, _, _, _, _, _]) [1, 0] rfl)
                    · replace h := bnd h
                      obtain ⟨t41, ht41, h⟩ := h
                      obtain ⟨z50, rfl, q51x, q51l, q51r⟩ := atF ht41
                      clear ht41
                      refine idy_s ((Ent.sl mp1).now (fun _ h => h) hS) q51x q51l q51r ?_
                      refine ⟨_, rd_get ((Ent.sl mp1).now (fun _ h => h) hS) rfl q51x, ?_⟩
                      replace h := bnd h
                      obtain ⟨t42, ht42, h⟩ := h
                      refine fdiv_s ht42 hS ?_; clear hS ht42; rintro z53 w rfl hS
                      replace h := bnd h
                      obtain ⟨t43, ht43, h⟩ := h
                      refine wk_girderref03_Finite H hS  ht43 ?_; clear hS ht43; rintro w hS
                      refine ⟨_, rfl, ?_⟩
                      refine cond_s h ?_ ?_ <;> clear h <;> intro hc h
                      · refine ⟨_, (hS.cel mp3 rfl), ?_⟩
                        refine ⟨_, _, _, (hS.cel mp3 rfl), ?_⟩
                        refine ⟨_, _, _, (hS.cel mp3 rfl), ?_⟩
                        replace hS := ro4 hS
                        refine stc_s hS rfl rfl ?_; clear hS; intro w hS
                        refine stc_s hS rfl rfl ?_; clear hS; intro w hS
                        refine stc_s hS rfl rfl ?_; clear hS; intro w hS
                        obtain rfl := some_inj h
                        have h := c34
                        obtain rfl := some_inj h
                        have h := congrArg some (hO _ rfl)
                        obtain rfl := some_inj h
                        have h := c29
                        obtain rfl := some_inj h
                        have h := congrArg some (hO _ rfl)
                        obtain rfl := some_inj h
                        have h := c12
                        refine ⟨_, (hS.cel mp0 rfl), ?_⟩
                        refine ⟨_, _, _, (hS.cel mp0 rfl), ?_⟩
                        refine ⟨_, _, _, (hS.cel mp0 rfl), ?_⟩
                        replace hS := hS.none (α := Nat) (enc := (Value.float .f64)) (t := N.t_float64)
                        replace hS := hS.none (α := Nat) (enc := (Value.float .f64)) (t := N.t_float64)
                        have h := some_inj h
                        cases h
                        exact hK _ _ _ _ _ _ _ _ _ rfl rfl (hS.pick (A := [_, _, _, _, _, _, _, _]) [1, 0] rfl)
                      · refine ⟨by decide, ?_⟩
                        replace h := bnd h
                        obtain ⟨t44, ht44, h⟩ := h
                        obtain ⟨z54, rfl, q55x, q55l, q55r⟩ := atF ht44
                        clear ht44
                        refine idy_s ((Ent.sl mp2).now (fun _ h => h) hS) q55x q55l q55r ?_
                        replace hS := ro2 hS
                        replace h := bnd h
                        obtain ⟨t45, ht45, h⟩ := h
                        obtain rfl := setF ht45
                        clear ht45
                        refine sto_s hS rfl q55r ?_; clear hS; intro w hS
                        obtain rfl := some_inj h
                        exact hJ34 _ _ ⟨_, _, rfl, rfl, (hS.pick (A := [_, _, _, _, _, _]) [2, 1, 0, 0, 0, 0] rfl)⟩
                · clear h34 hS
                  rintro s w ⟨ws32, ws33, rfl, rfl, hS⟩
                  have h := c34
                  clear c34
                  try dsimp only
                  obtain rfl := some_inj h
                  exact hX _ rfl _ _ ⟨_, _, _, rfl, rfl, (hS.pick (A := [_, _, _, _, _, _]) [1, 0, 0, 0, 0, 0] rfl)⟩
              · obtain rfl := some_inj h
                have h := congrArg some (hO _ rfl)
                obtain rfl := some_inj h
                exact hJ29 _ _ ⟨_, _, rfl, rfl, (hS.pick (A := [_, _, _, _, _, _]) [1, 1, 1, 1, 1] rfl)⟩
            · clear h29 hS
              rintro s w ⟨ws27, ws28, rfl, rfl, hS⟩
              have h := c29
              clear c29
              try dsimp only
              obtain rfl := some_inj h
              exact hX _ rfl _ _ ⟨_, _, _, rfl, rfl, hS⟩
        · obtain rfl := some_inj h
          have h := congrArg some (hO _ rfl)
          obtain rfl := some_inj h
          exact hJ12 _ _ ⟨_, _, rfl, rfl, (hS.pick (A := [_, _, _, _, _]) [0, 0, 1] rfl)⟩
      · clear h12 hS
        rintro s w ⟨ws10, ws11, rfl, rfl, hS⟩
        have h := c12
        clear c12
        try dsimp only
        replace hS := ro2 hS
        refine stc_s hS rfl rfl ?_; clear hS; intro w hS
        refine stc_s hS rfl rfl ?_; clear hS; intro w hS
        refine stc_s hS rfl rfl ?_; clear hS; intro w hS
        refine ⟨_, (hS.cel mp0 rfl), ?_⟩
        refine ⟨_, _, _, (hS.cel mp0 rfl), ?_⟩
        refine ⟨_, _, _, (hS.cel mp0 rfl), ?_⟩
        have h := some_inj h
        cases h
        exact hK _ _ _ _ _ _ _ _ _ rfl rfl (hS.pick (A := [_, _, _]) [2, 1] rfl)

theorem wk_girderkit_SameFloat {N : Nums} {P : Program} (H : AllOk N P) {w0 w : World} {L : List It} {q0 : Nat} {q1 : Nat} {u0 : Bool} (hS : Ho w0 w (L))  (hx : T_girderkit_SameFloat (nf q0) (nf q1) = some u0) {K : Value → World → Prop} (hK : ∀  (w1 : World), Ho w0 w1 (L) → K (.bool u0) w1) : CallsX P N.f_girderkit_SameFloat #[.float .f64 q0, .float .f64 q1] w K := by
  unfold T_girderkit_SameFloat at hx
  have hx := some_inj hx
  subst hx
  refine (sameFloat_c H q0 q1 w).mono ?_
  rintro _ w1 ⟨rfl, h1⟩
  exact hK _ (hS.next h1)

theorem wk_girderkit_SameReals {N : Nums} {P : Program} (H : AllOk N P) {w0 w : World} {L : List It} {q0 : Option Addr} {q0l q0c : Nat} {ws0 : List Nat} {q1 : Option Addr} {q1l q1c : Nat} {ws1 : List Nat} {u0 : Bool} (hS : Ho w0 w (L)) (hq0 : Ent L (rdA (List.map (Value.float .f64) ws0) q0 q0l q0c)) (hq1 : Ent L (rdA (List.map (Value.float .f64) ws1) q1 q1l q1c)) (hx : T_girderkit_SameReals (List.map nf ws0) (List.map nf ws1) = some u0) {K : Value → World → Prop} (hK : ∀  (w1 : World), Ho w0 w1 (L) → K (.bool u0) w1) : CallsX P N.f_girderkit_SameReals #[.slice q0 q0l q0c, .slice q1 q1l q1c] w K := by
  refine H.girderkit_SameReals q0 q0l q0c q1 q1l q1c w _ ?_
  unfold S_girderkit_SameReals
  unfold T_girderkit_SameReals at hx
  have h := hx
  clear hx
  try dsimp only
  replace h := bnd h
  obtain ⟨t1, ht1, h⟩ := h
  obtain rfl := lenF ht1 (hq0.now (fun _ h => h) hS)
  clear ht1
  replace h := bnd h
  obtain ⟨t2, ht2, h⟩ := h
  obtain rfl := lenF ht2 (hq1.now (fun _ h => h) hS)
  clear ht2
  refine cond_s h ?_ ?_ <;> clear h <;> intro hc h
  · have h := some_inj h
    cases h
    exact hK _ hS
  · replace h := bnd h
    obtain ⟨o1, h1, c1⟩ := h
    refine cutM_i (fun s w =>  .inl () = o1 ∧ s = (()) ∧ Ho w0 w (L)) (fun J1 hJ1 => ?_) ?_
    · have h := h1
      clear h1
      refine iter_sim (fun s w t => ∃ (t3 : Int), t3 = t ∧ s = (t3, ()) ∧ Ho w0 w (L)) ?_ h ⟨_, rfl, rfl, hS⟩
      clear h hS
      rintro s w t X q ⟨t3, rfl, rfl, hS⟩ h hX hO
      unfold T_girderkit_SameReals_b2 at h
      try dsimp only
      replace h := bnd h
      obtain ⟨t4, ht4, h⟩ := h
      obtain rfl := lenF ht4 (hq0.now (fun _ h => h) hS)
      clear ht4
      refine cond_s h ?_ ?_ <;> clear h <;> intro hc h
      · replace h := bnd h
        obtain ⟨t5, ht5, h⟩ := h
        obtain ⟨z2, rfl, q3x, q3l, q3r⟩ := atF ht5
        clear ht5
        refine idx_s (hq0.now (fun _ h => h) hS) q3x q3l q3r ?_; intro b4 hb4
        refine ⟨_, rd_get (hq0.now (fun _ h => h) hS) hb4 q3x, ?_⟩
        replace h := bnd h
        obtain ⟨t6, ht6, h⟩ := h
        obtain ⟨z5, rfl, q6x, q6l, q6r⟩ := atF ht6
        clear ht6
        refine idx_s (hq1.now (fun _ h => h) hS) q6x q6l q6r ?_; intro b7 hb7
        refine ⟨_, rd_get (hq1.now (fun _ h => h) hS) hb7 q6x, ?_⟩
        refine drM_s hS ?_; clear hS; intro w hS
        replace h := bnd h
        obtain ⟨t7, ht7, h⟩ := h
        refine wk_girderkit_SameFloat H hS  ht7 ?_; clear hS ht7; rintro w hS
        refine ⟨_, rfl, ?_⟩
        refine drM_s hS ?_; clear hS; intro w hS
        refine cond_s h ?_ ?_ <;> clear h <;> intro hc h
        · obtain rfl := some_inj h
          have h := congrArg some (hO _ rfl)
          obtain rfl := some_inj h
          have h := c1
          have h := some_inj h
          cases h
          exact hK _ hS
        · obtain rfl := some_inj h
          exact hX _ rfl _ _ ⟨_, rfl, rfl, hS⟩
      · obtain rfl := some_inj h
        have h := congrArg some (hO _ rfl)
        obtain rfl := some_inj h
        exact hJ1 _ _ ⟨rfl, rfl, hS⟩
    · clear h1 hS
      rintro s w ⟨rfl, rfl, hS⟩
      have h := c1
      clear c1
      try dsimp only
      have h := some_inj h
      cases h
      exact hK _ hS

theorem wk_girderkit_SameFactor {N : Nums} {P : Program} (H : AllOk N P) {w0 w : World} {L : List It} {q0_0 : Int} {q0_1 : Option Addr} {q0_1l q0_1c : Nat} {ws0_1 : List Nat} {q0_2 : Option Addr} {q0_2l q0_2c : Nat} {ws0_2 : List Nat} {q1_0 : Int} {q1_1 : Option Addr} {q1_1l q1_1c : Nat} {ws1_1 : List Nat} {q1_2 : Option Addr} {q1_2l q1_2c : Nat} {ws1_2 : List Nat} {u0 : Bool} (hS : Ho w0 w (L)) (hq0_1 : Ent L (rdA (List.map (Value.float .f64) ws0_1) q0_1 q0_1l q0_1c)) (hq0_2 : Ent L (rdA (List.map (Value.float .f64) ws0_2) q0_2 q0_2l q0_2c)) (hq1_1 : Ent L (rdA (List.map (Value.float .f64) ws1_1) q1_1 q1_1l q1_1c)) (hq1_2 : Ent L (rdA (List.map (Value.float .f64) ws1_2) q1_2 q1_2l q1_2c)) (hx : T_girderkit_SameFactor q0_0 (List.map nf ws0_1) (List.map nf ws0_2) q1_0 (List.map nf ws1_1) (List.map nf ws1_2) = some u0) {K : Value → World → Prop} (hK : ∀  (w1 : World), Ho w0 w1 (L) → K (.bool u0) w1) : CallsX P N.f_girderkit_SameFactor #[.agg #[.int .i64 q0_0, .slice q0_1 q0_1l q0_1c, .slice q0_2 q0_2l q0_2c], .agg #[.int .i64 q1_0, .slice q1_1 q1_1l q1_1c, .slice q1_2 q1_2l q1_2c]] w K := by
  refine H.girderkit_SameFactor q0_0 q0_1 q0_1l q0_1c q0_2 q0_2l q0_2c q1_0 q1_1 q1_1l q1_1c q1_2 q1_2l q1_2c w _ ?_
  unfold S_girderkit_SameFactor
  unfold T_girderkit_SameFactor at hx
  have h := hx
  clear hx
  try dsimp only
  refine newM_s hS ?_; clear hS; intro r1 w hS
  refine newM_s hS ?_; clear hS; intro r2 w hS
  refine ⟨_, (hS.cel mp1 rfl), ?_⟩
  refine ⟨_, (hS.cel mp0 rfl), ?_⟩
  refine cond_s h ?_ ?_ <;> clear h <;> intro hc h
  · refine ⟨_, _, _, (hS.cel mp1 rfl), ?_⟩
    refine ⟨_, _, _, (hS.cel mp0 rfl), ?_⟩
    replace h := bnd h
    obtain ⟨t1, ht1, h⟩ := h
    refine wk_girderkit_SameReals H hS (hq0_1.mono tl2) (hq1_1.mono tl2) ht1 ?_; clear hS ht1; rintro w hS
    refine ⟨_, rfl, ?_⟩
    refine cond_s h ?_ ?_ <;> clear h <;> intro hc h
    · refine ⟨_, _, _, (hS.cel mp1 rfl), ?_⟩
      refine ⟨_, _, _, (hS.cel mp0 rfl), ?_⟩
      replace h := bnd h
      obtain ⟨t2, ht2, h⟩ := h
      refine wk_girderkit_SameReals H hS (hq0_2.mono tl2) (hq1_2.mono tl2) ht2 ?_; clear hS ht2; rintro w hS
      refine ⟨_, rfl, ?_⟩
      have h := some_inj h
      cases h
      exact hK _ (hS.pick (A := [_, _]) [] rfl)
    · have h := some_inj h
      cases h
      exact hK _ (hS.pick (A := [_, _]) [] rfl)
  · have h := some_inj h
    cases h
    exact hK _ (hS.pick (A := [_, _]) [] rfl)

theorem wk_girderlaw12_mirrored {N : Nums} {P : Program} (H : AllOk N P) {w0 w : World} {L : List It} {q0_0 : Int} {q0_1 : Int} {q0_2 : Option Addr} {q0_2l q0_2c : Nat} {ws0_2 : List Nat} {u0 : Int} {u1 : Int} {u2 : List Nat} (hS : Ho w0 w (L)) (hq0_2 : Ent L (rdA (List.map (Value.float .f64) ws0_2) q0_2 q0_2l q0_2c)) (hx : T_girderlaw12_mirrored q0_0 q0_1 (List.map nf ws0_2) = some (u0, u1, u2)) {K : Value → World → Prop} (hK : ∀ (a2 : Option Addr) (n2 c2 : Nat) (rws2 : List Nat) (w1 : World), List.map nf rws2 = u2 → Ho w0 w1 ((sl a2 n2 c2 (List.map (Value.float .f64) rws2) N.t_float64) :: L) → K (.agg #[.int .i64 u0, .int .i64 u1, .slice a2 n2 c2]) w1) : CallsX P N.f_girderlaw12_mirrored #[.agg #[.int .i64 q0_0, .int .i64 q0_1, .slice q0_2 q0_2l q0_2c]] w K := by
  refine H.girderlaw12_mirrored q0_0 q0_1 q0_2 q0_2l q0_2c w _ ?_
  unfold S_girderlaw12_mirrored
  unfold T_girderlaw12_mirrored at hx
  have h := hx
  clear hx
  try dsimp only
  refine newM_s hS ?_; clear hS; intro r1 w hS
  refine newM_s hS ?_; clear hS; intro r2 w hS
  replace h := bnd h
  obtain ⟨o3, h3, c3⟩ := h
  refine cutM_i (fun s w => ∃ (t1 : Int), t1 = o3 ∧ s = (t1, ()) ∧ Ho w0 w ((cl r2 [.int .i64 0, .int .i64 0, .slice none 0 0] N.t_Matrix) :: (cl r1 [.int .i64 q0_0, .int .i64 q0_1, .slice q0_2 q0_2l q0_2c] N.t_Matrix) :: L)) (fun J3 hJ3 => ?_) ?_
  · have h := h3
    clear h3
    refine iter_sim (fun s w t => ∃ (t2 : Int), t2 = t ∧ s = (t2, ()) ∧ Ho w0 w ((cl r2 [.int .i64 0, .int .i64 0, .slice none 0 0] N.t_Matrix) :: (cl r1 [.int .i64 q0_0, .int .i64 q0_1, .slice q0_2 q0_2l q0_2c] N.t_Matrix) :: L)) ?_ h ⟨_, rfl, rfl, hS⟩
    clear h hS
    rintro s w t X q ⟨t2, rfl, rfl, hS⟩ h hX hO
    unfold T_girderlaw12_mirrored_b2 at h
    try dsimp only
    refine cond_s h ?_ ?_ <;> clear h <;> intro hc h
    · refine ⟨_, _, _, (hS.cel mp1 rfl), ?_⟩
      replace h := bnd h
      obtain ⟨t3, ht3, h⟩ := h
      obtain rfl := lenF ht3 ((hq0_2.mono tl2).now (fun _ h => h) hS)
      clear ht3
      refine cond_s h ?_ ?_ <;> clear h <;> intro hc h
      · refine ⟨_, (hS.cel mp1 rfl), ?_⟩
        refine cond_s h ?_ ?_ <;> clear h <;> intro hc h
        · obtain rfl := some_inj h
          exact hX _ rfl _ _ ⟨_, rfl, rfl, hS⟩
        · obtain rfl := some_inj h
          have h := congrArg some (hO _ rfl)
          obtain rfl := some_inj h
          exact hJ3 _ _ ⟨_, rfl, rfl, hS⟩
      · obtain rfl := some_inj h
        have h := congrArg some (hO _ rfl)
        obtain rfl := some_inj h
        exact hJ3 _ _ ⟨_, rfl, rfl, hS⟩
    · obtain rfl := some_inj h
      have h := congrArg some (hO _ rfl)
      obtain rfl := some_inj h
      exact hJ3 _ _ ⟨_, rfl, rfl, hS⟩
  · clear h3 hS
    rintro s w ⟨t1, rfl, rfl, hS⟩
    have h := c3
    clear c3
    try dsimp only
    replace h := bnd h
    obtain ⟨t4, ht4, h⟩ := h
    obtain ⟨rfl, kt4⟩ := mkF ht4
    clear ht4
    refine mk_s (enc := (Value.float .f64)) hS kt4 rfl ?_; clear hS kt4; intro r4 w hS
    refine newM_s hS ?_; clear hS; intro r5 w hS
    refine stc_s hS rfl rfl ?_; clear hS; intro w hS
    refine stc_s hS rfl rfl ?_; clear hS; intro w hS
    refine stc_s hS rfl rfl ?_; clear hS; intro w hS
    replace h := bnd h
    obtain ⟨o7, h7, c7⟩ := h
    refine cutM_i (fun s w => ∃ (ws6 : List Nat), (List.map nf ws6) = o7 ∧ s = (()) ∧ Ho w0 w ((cl r5 [.int .i64 t1, .int .i64 t1, .slice (some ⟨r4, 0, none⟩) (((IntKind.i64.wrap (t1 * t1))).toNat) (((IntKind.i64.wrap (t1 * t1))).toNat)] N.t_Matrix) :: (sl (some ⟨r4, 0, none⟩) (((IntKind.i64.wrap (t1 * t1))).toNat) (((IntKind.i64.wrap (t1 * t1))).toNat) (List.map (Value.float .f64) ws6) N.t_float64) :: (cl r2 [.int .i64 0, .int .i64 0, .slice none 0 0] N.t_Matrix) :: L)) (fun J7 hJ7 => ?_) ?_
    · have h := h7
      clear h7
      refine iter_sim (fun s w t => ∃ (t6 : Int) (ws8 : List Nat), (t6, (List.map nf ws8)) = t ∧ s = (t6, ()) ∧ Ho w0 w ((cl r5 [.int .i64 t1, .int .i64 t1, .slice (some ⟨r4, 0, none⟩) (((IntKind.i64.wrap (t1 * t1))).toNat) (((IntKind.i64.wrap (t1 * t1))).toNat)] N.t_Matrix) :: (sl (some ⟨r4, 0, none⟩) (((IntKind.i64.wrap (t1 * t1))).toNat) (((IntKind.i64.wrap (t1 * t1))).toNat) (List.map (Value.float .f64) ws8) N.t_float64) :: (cl r2 [.int .i64 0, .int .i64 0, .slice none 0 0] N.t_Matrix) :: (cl r1 [.int .i64 q0_0, .int .i64 q0_1, .slice q0_2 q0_2l q0_2c] N.t_Matrix) :: L)) ?_ h ⟨_, _, rfl, rfl, hS⟩
      clear h hS
      rintro s w t X q ⟨t6, ws8, rfl, rfl, hS⟩ h hX hO
      unfold T_girderlaw12_mirrored_b9 at h
      try dsimp only
      refine cond_s h ?_ ?_ <;> clear h <;> intro hc h
      · replace h := bnd h
        obtain ⟨o10, h10, c10⟩ := h
        refine cutM_i (fun s w => ∃ (ws9 : List Nat), (List.map nf ws9) = o10 ∧ s = (()) ∧ Ho w0 w ((cl r5 [.int .i64 t1, .int .i64 t1, .slice (some ⟨r4, 0, none⟩) (((IntKind.i64.wrap (t1 * t1))).toNat) (((IntKind.i64.wrap (t1 * t1))).toNat)] N.t_Matrix) :: (sl (some ⟨r4, 0, none⟩) (((IntKind.i64.wrap (t1 * t1))).toNat) (((IntKind.i64.wrap (t1 * t1))).toNat) (List.map (Value.float .f64) ws9) N.t_float64) :: (cl r2 [.int .i64 0, .int .i64 0, .slice none 0 0] N.t_Matrix) :: (cl r1 [.int .i64 q0_0, .int .i64 q0_1, .slice q0_2 q0_2l q0_2c] N.t_Matrix) :: L)) (fun J10 hJ10 => ?_) ?_
        · have h := h10
          clear h10
          refine iter_sim (fun s w t => ∃ (t9 : Int) (ws11 : List Nat), (t9, (List.map nf ws11)) = t ∧ s = (t9, ()) ∧ Ho w0 w ((cl r5 [.int .i64 t1, .int .i64 t1, .slice (some ⟨r4, 0, none⟩) (((IntKind.i64.wrap (t1 * t1))).toNat) (((IntKind.i64.wrap (t1 * t1))).toNat)] N.t_Matrix) :: (sl (some ⟨r4, 0, none⟩) (((IntKind.i64.wrap (t1 * t1))).toNat) (((IntKind.i64.wrap (t1 * t1))).toNat) (List.map (Value.float .f64) ws11) N.t_float64) :: (cl r2 [.int .i64 0, .int .i64 0, .slice none 0 0] N.t_Matrix) :: (cl r1 [.int .i64 q0_0, .int .i64 q0_1, .slice q0_2 q0_2l q0_2c] N.t_Matrix) :: L)) ?_ h ⟨_, _, rfl, rfl, hS⟩
          clear h hS
          rintro s w t X q ⟨t9, ws11, rfl, rfl, hS⟩ h hX hO
          unfold T_girderlaw12_mirrored_b11 at h
          try dsimp only
          refine cond_s h ?_ ?_ <;> clear h <;> intro hc h
          · refine ⟨_, _, _, (hS.cel mp0 rfl), ?_⟩
            refine ⟨_, _, _, (hS.cel mp3 rfl), ?_⟩
            replace h := bnd h
            obtain ⟨t11, ht11, h⟩ := h
            obtain ⟨z12, rfl, q13x, q13l, q13r⟩ := atF ht11
            clear ht11
            refine idx_s ((hq0_2.mono tl4).now (fun _ h => h) hS) q13x q13l q13r ?_; intro b14 hb14
            refine ⟨_, rd_get ((hq0_2.mono tl4).now (fun _ h => h) hS) hb14 q13x, ?_⟩
            replace h := bnd h
            obtain ⟨t12, ht12, h⟩ := h
            obtain ⟨z15, rfl, q16x, q16l, q16r⟩ := atF ht12
            clear ht12
            refine idx_s ((Ent.sl mp1).now (fun _ h => h) hS) q16x q16l q16r ?_; intro b17 hb17
            refine drM_s hS ?_; clear hS; intro w hS
            replace hS := ro1 hS
            replace h := bnd h
            obtain ⟨t13, ht13, h⟩ := h
            obtain rfl := setF ht13
            clear ht13
            refine sto_s hS hb17 q16r ?_; clear hS; intro w hS
            refine drM_s hS ?_; clear hS; intro w hS
            refine ⟨_, _, _, (hS.cel mp1 rfl), ?_⟩
            refine ⟨_, _, _, (hS.cel mp3 rfl), ?_⟩
            replace h := bnd h
            obtain ⟨t14, ht14, h⟩ := h
            obtain ⟨z18, rfl, q19x, q19l, q19r⟩ := atF ht14
            clear ht14
            refine idx_s ((hq0_2.mono tl4).now (fun _ h => h) hS) q19x q19l q19r ?_; intro b20 hb20
            refine ⟨_, rd_get ((hq0_2.mono tl4).now (fun _ h => h) hS) hb20 q19x, ?_⟩
            replace h := bnd h
            obtain ⟨t15, ht15, h⟩ := h
            obtain ⟨z21, rfl, q22x, q22l, q22r⟩ := atF ht15
            clear ht15
            refine idx_s ((Ent.sl mp0).now (fun _ h => h) hS) q22x q22l q22r ?_; intro b23 hb23
            refine drM_s hS ?_; clear hS; intro w hS
            replace h := bnd h
            obtain ⟨t16, ht16, h⟩ := h
            obtain rfl := setF ht16
            clear ht16
            refine sto_s hS hb23 q22r ?_; clear hS; intro w hS
            refine drM_s hS ?_; clear hS; intro w hS
            obtain rfl := some_inj h
            exact hX _ rfl _ _ ⟨_, _, rfl, rfl, (hS.pick (A := [_, _, _, _]) [1, 0, 0, 0] rfl)⟩
          · obtain rfl := some_inj h
            have h := congrArg some (hO _ rfl)
            obtain rfl := some_inj h
            exact hJ10 _ _ ⟨_, rfl, rfl, hS⟩
        · clear h10 hS
          rintro s w ⟨ws9, rfl, rfl, hS⟩
          have h := c10
          clear c10
          try dsimp only
          obtain rfl := some_inj h
          exact hX _ rfl _ _ ⟨_, _, rfl, rfl, hS⟩
      · obtain rfl := some_inj h
        have h := congrArg some (hO _ rfl)
        obtain rfl := some_inj h
        exact hJ7 _ _ ⟨_, rfl, rfl, (hS.pick (A := [_, _, _, _]) [0, 0, 0] rfl)⟩
    · clear h7 hS
      rintro s w ⟨ws6, rfl, rfl, hS⟩
      have h := c7
      clear c7
      try dsimp only
      refine ⟨_, (hS.cel mp0 rfl), ?_⟩
      refine ⟨_, (hS.cel mp0 rfl), ?_⟩
      refine ⟨_, _, _, (hS.cel mp0 rfl), ?_⟩
      replace hS := ro2 hS
      refine stc_s hS rfl rfl ?_; clear hS; intro w hS
      refine stc_s hS rfl rfl ?_; clear hS; intro w hS
      refine stc_s hS rfl rfl ?_; clear hS; intro w hS
      refine ⟨_, (hS.cel mp0 rfl), ?_⟩
      refine ⟨_, (hS.cel mp0 rfl), ?_⟩
      refine ⟨_, _, _, (hS.cel mp0 rfl), ?_⟩
      have h := some_inj h
      cases h
      exact hK _ _ _ _ _ rfl (hS.pick (A := [_, _, _]) [2] rfl)

theorem wk_lower_Right {N : Nums} {P : Program} (H : AllOk N P) {w0 w : World} {L : List It} {q0_0 : Int} {q0_1 : Option Addr} {q0_1l q0_1c : Nat} {ws0_1 : List Nat} {q0_2 : Option Addr} {q0_2l q0_2c : Nat} {ws0_2 : List Nat} {u0 : Bool} (hS : Ho w0 w (L)) (hq0_1 : Ent L (rdA (List.map (Value.float .f64) ws0_1) q0_1 q0_1l q0_1c)) (hq0_2 : Ent L (rdA (List.map (Value.float .f64) ws0_2) q0_2 q0_2l q0_2c)) (hx : T_lower_Right q0_0 (List.map nf ws0_1) (List.map nf ws0_2) = some u0) {K : Value → World → Prop} (hK : ∀  (w1 : World), Ho w0 w1 (L) → K (.bool u0) w1) : CallsX P N.f_lower_Right #[.agg #[.int .i64 q0_0, .slice q0_1 q0_1l q0_1c, .slice q0_2 q0_2l q0_2c]] w K := by
  refine H.lower_Right q0_0 q0_1 q0_1l q0_1c q0_2 q0_2l q0_2c w _ ?_
  unfold S_lower_Right
  unfold T_lower_Right at hx
  have h := hx
  clear hx
  try dsimp only
  refine newM_s hS ?_; clear hS; intro r1 w hS
  refine ⟨_, (hS.cel mp0 rfl), ?_⟩
  refine cond_s h ?_ ?_ <;> clear h <;> intro hc h
  · refine ⟨_, (hS.cel mp0 rfl), ?_⟩
    refine cond_s h ?_ ?_ <;> clear h <;> intro hc h
    · refine ⟨_, _, _, (hS.cel mp0 rfl), ?_⟩
      replace h := bnd h
      obtain ⟨t1, ht1, h⟩ := h
      obtain rfl := lenF ht1 ((hq0_1.mono tl1).now (fun _ h => h) hS)
      clear ht1
      refine ⟨_, (hS.cel mp0 rfl), ?_⟩
      refine ⟨_, (hS.cel mp0 rfl), ?_⟩
      refine ⟨by decide, ?_⟩
      refine cond_s h ?_ ?_ <;> clear h <;> intro hc h
      · refine ⟨_, _, _, (hS.cel mp0 rfl), ?_⟩
        replace h := bnd h
        obtain ⟨t2, ht2, h⟩ := h
        obtain rfl := lenF ht2 ((hq0_2.mono tl1).now (fun _ h => h) hS)
        clear ht2
        refine ⟨_, (hS.cel mp0 rfl), ?_⟩
        have h := some_inj h
        cases h
        exact hK _ (hS.pick (A := [_]) [] rfl)
      · have h := some_inj h
        cases h
        exact hK _ (hS.pick (A := [_]) [] rfl)
    · have h := some_inj h
      cases h
      exact hK _ (hS.pick (A := [_]) [] rfl)
  · have h := some_inj h
    cases h
    exact hK _ (hS.pick (A := [_]) [] rfl)

theorem wk_matrix_Make_1 {N : Nums} {P : Program} (H : AllOk N P) {w0 w : World} {L : List It} {q0 : Int} {q1 : Int} {u0 : Nat} (hS : Ho w0 w (L))  (hx : T_matrix_Make_1 q0 q1 = some u0) {K : Value → World → Prop} (hK : ∀ (z0 : Nat) (w1 : World), nf z0 = u0 → Ho w0 w1 (L) → K (.float .f64 z0) w1) : CallsX P N.f_matrix_Make_1 #[.int .i64 q0, .int .i64 q1] w K := by
  refine H.matrix_Make_1 q0 q1 w _ ?_
  unfold S_matrix_Make_1
  unfold T_matrix_Make_1 at hx
  have h := hx
  clear hx
  try dsimp only
  have h := some_inj h
  cases h
  exact hK _ _ rfl hS

theorem wk_matrix_Make {N : Nums} {P : Program} (H : AllOk N P) {w0 w : World} {L : List It} {q0 : Int} {q1 : Int} {u0 : Int} {u1 : Int} {u2 : List Nat} {u3 : Int} (hS : Ho w0 w (L))  (hx : T_matrix_Make q0 q1 = some (u0, u1, u2, u3)) {K : Value → World → Prop} (hK : ∀ (a2 : Option Addr) (n2 c2 : Nat) (rws2 : List Nat) (w1 : World), List.map nf rws2 = u2 → Ho w0 w1 ((sl a2 n2 c2 (List.map (Value.float .f64) rws2) N.t_float64) :: L) → K (.tuple #[.agg #[.int .i64 u0, .int .i64 u1, .slice a2 n2 c2], .int .i64 u3]) w1) : CallsX P N.f_matrix_Make #[.int .i64 q0, .int .i64 q1] w K := by
  refine H.matrix_Make q0 q1 w _ ?_
  unfold S_matrix_Make
  unfold T_matrix_Make at hx
  have h := hx
  clear hx
  try dsimp only
  refine newM_s hS ?_; clear hS; intro r1 w hS
  replace h := bnd h
  obtain ⟨t1, ht1, h⟩ := h
  refine wk_matrix_fits H hS  ht1 ?_; clear hS ht1; rintro w hS
  refine ⟨_, rfl, ?_⟩
  refine cond_s h ?_ ?_ <;> clear h <;> intro hc h
  · replace h := bnd h
    obtain ⟨t2, ht2, h⟩ := h
    refine wk_matrix_fits H hS  ht2 ?_; clear hS ht2; rintro w hS
    refine ⟨_, rfl, ?_⟩
    refine cond_s h ?_ ?_ <;> clear h <;> intro hc h
    · refine stc_s hS rfl rfl ?_; clear hS; intro w hS
      refine stc_s hS rfl rfl ?_; clear hS; intro w hS
      refine stc_s hS rfl rfl ?_; clear hS; intro w hS
      refine ⟨_, (hS.cel mp0 rfl), ?_⟩
      refine ⟨_, (hS.cel mp0 rfl), ?_⟩
      refine ⟨_, _, _, (hS.cel mp0 rfl), ?_⟩
      replace hS := hS.none (α := Nat) (enc := (Value.float .f64)) (t := N.t_float64)
      have h := some_inj h
      cases h
      exact hK _ _ _ _ _ rfl (hS.pick (A := [_, _]) [0] rfl)
    · replace h := bnd h
      obtain ⟨⟨t3, t4, t5⟩, ho3, h⟩ := h
      refine wk_matrix_laid H hS (by intro v0 v1 w L1 r1 K hL hx hS hK; exact wk_matrix_Make_1 H hS  hx hK) ho3 ?_; clear hS ho3; rintro a2 m2 c2 ws2 w rfl hS
      refine ⟨_, _, _, _, _, rfl, ?_⟩
      replace hS := ro1 hS
      refine stc_s hS rfl rfl ?_; clear hS; intro w hS
      refine stc_s hS rfl rfl ?_; clear hS; intro w hS
      refine stc_s hS rfl rfl ?_; clear hS; intro w hS
      refine ⟨_, (hS.cel mp0 rfl), ?_⟩
      refine ⟨_, (hS.cel mp0 rfl), ?_⟩
      refine ⟨_, _, _, (hS.cel mp0 rfl), ?_⟩
      have h := some_inj h
      cases h
      exact hK _ _ _ _ _ rfl (hS.pick (A := [_, _]) [1] rfl)
  · refine stc_s hS rfl rfl ?_; clear hS; intro w hS
    refine stc_s hS rfl rfl ?_; clear hS; intro w hS
    refine stc_s hS rfl rfl ?_; clear hS; intro w hS
    refine ⟨_, (hS.cel mp0 rfl), ?_⟩
    refine ⟨_, (hS.cel mp0 rfl), ?_⟩
    refine ⟨_, _, _, (hS.cel mp0 rfl), ?_⟩
    replace hS := hS.none (α := Nat) (enc := (Value.float .f64)) (t := N.t_float64)
    have h := some_inj h
    cases h
    exact hK _ _ _ _ _ rfl (hS.pick (A := [_, _]) [0] rfl)

theorem wk_lower_Times {N : Nums} {P : Program} (H : AllOk N P) {w0 w : World} {L : List It} {q0_0 : Int} {q0_1 : Option Addr} {q0_1l q0_1c : Nat} {ws0_1 : List Nat} {q0_2 : Option Addr} {q0_2l q0_2c : Nat} {ws0_2 : List Nat} {u0 : Int} {u1 : Int} {u2 : List Nat} {u3 : Int} (hS : Ho w0 w (L)) (hq0_1 : Ent L (rdA (List.map (Value.float .f64) ws0_1) q0_1 q0_1l q0_1c)) (hq0_2 : Ent L (rdA (List.map (Value.float .f64) ws0_2) q0_2 q0_2l q0_2c)) (hx : T_lower_Times q0_0 (List.map nf ws0_1) (List.map nf ws0_2) = some (u0, u1, u2, u3)) {K : Value → World → Prop} (hK : ∀ (a2 : Option Addr) (n2 c2 : Nat) (rws2 : List Nat) (w1 : World), List.map nf rws2 = u2 → Ho w0 w1 ((sl a2 n2 c2 (List.map (Value.float .f64) rws2) N.t_float64) :: L) → K (.tuple #[.agg #[.int .i64 u0, .int .i64 u1, .slice a2 n2 c2], .int .i64 u3]) w1) : CallsX P N.f_lower_Times #[.agg #[.int .i64 q0_0, .slice q0_1 q0_1l q0_1c, .slice q0_2 q0_2l q0_2c]] w K := by
  refine H.lower_Times q0_0 q0_1 q0_1l q0_1c q0_2 q0_2l q0_2c w _ ?_
  unfold S_lower_Times
  unfold T_lower_Times at hx
  have h := hx
  clear hx
  try dsimp only
  refine newM_s hS ?_; clear hS; intro r1 w hS
  refine newM_s hS ?_; clear hS; intro r2 w hS
  refine ⟨_, (hS.cel mp1 rfl), ?_⟩
  refine ⟨_, _, _, (hS.cel mp1 rfl), ?_⟩
  refine ⟨_, _, _, (hS.cel mp1 rfl), ?_⟩
  replace h := bnd h
  obtain ⟨t1, ht1, h⟩ := h
  refine wk_lower_Right H hS (hq0_1.mono tl2) (hq0_2.mono tl2) ht1 ?_; clear hS ht1; rintro w hS
  refine ⟨_, rfl, ?_⟩
  refine cond_s h ?_ ?_ <;> clear h <;> intro hc h
  · refine stc_s hS rfl rfl ?_; clear hS; intro w hS
    refine stc_s hS rfl rfl ?_; clear hS; intro w hS
    refine stc_s hS rfl rfl ?_; clear hS; intro w hS
    refine ⟨_, (hS.cel mp0 rfl), ?_⟩
    refine ⟨_, (hS.cel mp0 rfl), ?_⟩
    refine ⟨_, _, _, (hS.cel mp0 rfl), ?_⟩
    replace hS := hS.none (α := Nat) (enc := (Value.float .f64)) (t := N.t_float64)
    have h := some_inj h
    cases h
    exact hK _ _ _ _ _ rfl (hS.pick (A := [_, _, _]) [0] rfl)
  · refine ⟨_, (hS.cel mp1 rfl), ?_⟩
    replace h := bnd h
    obtain ⟨⟨t2, t3, t4, t5⟩, ho2, h⟩ := h
    refine wk_matrix_Make H hS  ho2 ?_; clear hS ho2; rintro a3 m3 c3 ws3 w rfl hS
    refine ⟨_, _, _, _, _, _, rfl, ?_⟩
    refine newM_s hS ?_; clear hS; intro r4 w hS
    refine stc_s hS rfl rfl ?_; clear hS; intro w hS
    refine stc_s hS rfl rfl ?_; clear hS; intro w hS
    refine stc_s hS rfl rfl ?_; clear hS; intro w hS
    replace h := bnd h
    obtain ⟨o6, h6, c6⟩ := h
    refine cutM_i (fun s w => ∃ (ws5 : List Nat), (List.map nf ws5) = o6 ∧ s = (()) ∧ Ho w0 w ((cl r4 [.int .i64 t2, .int .i64 t3, .slice a3 m3 c3] N.t_Matrix) :: (sl a3 m3 c3 (List.map (Value.float .f64) ws5) N.t_float64) :: (cl r2 [.int .i64 0, .int .i64 0, .slice none 0 0] N.t_Matrix) :: L)) (fun J6 hJ6 => ?_) ?_
    · have h := h6
      clear h6
      refine iter_sim (fun s w t => ∃ (t7 : Int) (ws7 : List Nat), (t7, (List.map nf ws7)) = t ∧ s = (t7, ()) ∧ Ho w0 w ((cl r4 [.int .i64 t2, .int .i64 t3, .slice a3 m3 c3] N.t_Matrix) :: (sl a3 m3 c3 (List.map (Value.float .f64) ws7) N.t_float64) :: (cl r2 [.int .i64 0, .int .i64 0, .slice none 0 0] N.t_Matrix) :: (cl r1 [.int .i64 q0_0, .slice q0_1 q0_1l q0_1c, .slice q0_2 q0_2l q0_2c] N.t_Factor) :: L)) ?_ h ⟨_, _, rfl, rfl, hS⟩
      clear h hS
      rintro s w t X q ⟨t7, ws7, rfl, rfl, hS⟩ h hX hO
      unfold T_lower_Times_b27 at h
      try dsimp only
      refine cond_s h ?_ ?_ <;> clear h <;> intro hc h
      · refine ⟨_, _, _, (hS.cel mp3 rfl), ?_⟩
        replace h := bnd h
        obtain ⟨⟨t9, t10⟩, ho9, h⟩ := h
        refine wk_lower_row H hS (hq0_1.mono tl4) ho9 ?_; clear hS ho9; rintro w hS
        refine ⟨_, _, _, rfl, ?_⟩
        replace h := bnd h
        obtain ⟨t11, ht11, h⟩ := h
        obtain ⟨rfl, q90, q91, q92⟩ := subF ht11
        clear ht11
        have q93 := ((hq0_1.mono tl4).now (fun _ h => h) hS).hiCap q92
        replace h := bnd h
        obtain ⟨t12, ht12, h⟩ := h
        obtain rfl : (List.map nf ([4607182418800017408] : List Nat)) = t12 := some_inj ht12
        clear ht12
        refine lit_s (ks := [4607182418800017408]) (enc := (Value.float .f64)) (m := 1) hS rfl rfl ?_; clear hS; intro r10 w hS
        replace h := bnd h
        obtain ⟨t13, ht13, h⟩ := h
        obtain ⟨rfl, kt13⟩ := appF ht13
        clear ht13
        refine appn_s hS ((Ent.part3 (hq0_1.mono tl5) q90 q91 q92 (Int.le_refl _) q93).now (fun _ h => h) hS) (by first | rfl | omega) (by simp) kt13 ((Ent.sl mp0).now (fun _ h => h) hS) rfl ?_; clear hS kt13; intro a11 c11 w hS
        replace h := bnd h
        obtain ⟨o13, h13, c13⟩ := h
        refine cutM_i (fun s w => ∃ (ws12 : List Nat), (List.map nf ws12) = o13 ∧ s = (()) ∧ Ho w0 w ((cl r4 [.int .i64 t2, .int .i64 t3, .slice a3 m3 c3] N.t_Matrix) :: (sl a3 m3 c3 (List.map (Value.float .f64) ws12) N.t_float64) :: (cl r2 [.int .i64 0, .int .i64 0, .slice none 0 0] N.t_Matrix) :: (cl r1 [.int .i64 q0_0, .slice q0_1 q0_1l q0_1c, .slice q0_2 q0_2l q0_2c] N.t_Factor) :: L)) (fun J13 hJ13 => ?_) ?_
        · have h := h13
          clear h13
          refine iter_sim (fun s w t => ∃ (t15 : Int) (ws14 : List Nat), (t15, (List.map nf ws14)) = t ∧ s = (t15, ()) ∧ Ho w0 w ((sl a11 ((t10.toNat - t9.toNat) + 1) c11 (List.map (Value.float .f64) (((ws0_1.drop ((t9).toNat)).take ((t10).toNat - (t9).toNat)) ++ [4607182418800017408])) N.t_float64) :: (cl r4 [.int .i64 t2, .int .i64 t3, .slice a3 m3 c3] N.t_Matrix) :: (sl a3 m3 c3 (List.map (Value.float .f64) ws14) N.t_float64) :: (cl r2 [.int .i64 0, .int .i64 0, .slice none 0 0] N.t_Matrix) :: (cl r1 [.int .i64 q0_0, .slice q0_1 q0_1l q0_1c, .slice q0_2 q0_2l q0_2c] N.t_Factor) :: L)) ?_ h ⟨_, _, rfl, rfl, (hS.pick (A := [_, _, _, _, _, _]) [0, 1, 1, 1, 1] rfl)⟩
          clear h hS
          rintro s w t X q ⟨t15, ws14, rfl, rfl, hS⟩ h hX hO
          unfold T_lower_Times_b36 at h
          try dsimp only
          refine cond_s h ?_ ?_ <;> clear h <;> intro hc h
          · refine ⟨_, _, _, (hS.cel mp4 rfl), ?_⟩
            replace h := bnd h
            obtain ⟨⟨t17, t18⟩, ho17, h⟩ := h
            refine wk_lower_row H hS (hq0_1.mono tl5) ho17 ?_; clear hS ho17; rintro w hS
            refine ⟨_, _, _, rfl, ?_⟩
            replace h := bnd h
            obtain ⟨t19, ht19, h⟩ := h
            obtain ⟨rfl, q160, q161, q162⟩ := subF ht19
            clear ht19
            have q163 := ((hq0_1.mono tl5).now (fun _ h => h) hS).hiCap q162
            replace h := bnd h
            obtain ⟨t20, ht20, h⟩ := h
            obtain rfl : (List.map nf ([4607182418800017408] : List Nat)) = t20 := some_inj ht20
            clear ht20
            refine lit_s (ks := [4607182418800017408]) (enc := (Value.float .f64)) (m := 1) hS rfl rfl ?_; clear hS; intro r17 w hS
            replace h := bnd h
            obtain ⟨t21, ht21, h⟩ := h
            obtain ⟨rfl, kt21⟩ := appF ht21
            clear ht21
            refine appn_s hS ((Ent.part3 (hq0_1.mono tl6) q160 q161 q162 (Int.le_refl _) q163).now (fun _ h => h) hS) (by first | rfl | omega) (by simp) kt21 ((Ent.sl mp0).now (fun _ h => h) hS) rfl ?_; clear hS kt21; intro a18 c18 w hS
            replace h := bnd h
            obtain ⟨o20, h20, c20⟩ := h
            refine cutM_i (fun s w => ∃ (z19 : Nat), (nf z19) = o20 ∧ s = (z19, ()) ∧ Ho w0 w ((sl a11 ((t10.toNat - t9.toNat) + 1) c11 (List.map (Value.float .f64) (((ws0_1.drop ((t9).toNat)).take ((t10).toNat - (t9).toNat)) ++ [4607182418800017408])) N.t_float64) :: (cl r4 [.int .i64 t2, .int .i64 t3, .slice a3 m3 c3] N.t_Matrix) :: (sl a3 m3 c3 (List.map (Value.float .f64) ws14) N.t_float64) :: (cl r2 [.int .i64 0, .int .i64 0, .slice none 0 0] N.t_Matrix) :: (cl r1 [.int .i64 q0_0, .slice q0_1 q0_1l q0_1c, .slice q0_2 q0_2l q0_2c] N.t_Factor) :: L)) (fun J20 hJ20 => ?_) ?_
            · have h := h20
              clear h20
              refine iter_sim (fun s w t => ∃ (z21 : Nat) (t24 : Int), ((nf z21), t24) = t ∧ s = (z21, t24, ()) ∧ Ho w0 w ((sl a18 ((t18.toNat - t17.toNat) + 1) c18 (List.map (Value.float .f64) (((ws0_1.drop ((t17).toNat)).take ((t18).toNat - (t17).toNat)) ++ [4607182418800017408])) N.t_float64) :: (sl a11 ((t10.toNat - t9.toNat) + 1) c11 (List.map (Value.float .f64) (((ws0_1.drop ((t9).toNat)).take ((t10).toNat - (t9).toNat)) ++ [4607182418800017408])) N.t_float64) :: (cl r4 [.int .i64 t2, .int .i64 t3, .slice a3 m3 c3] N.t_Matrix) :: (sl a3 m3 c3 (List.map (Value.float .f64) ws14) N.t_float64) :: (cl r2 [.int .i64 0, .int .i64 0, .slice none 0 0] N.t_Matrix) :: (cl r1 [.int .i64 q0_0, .slice q0_1 q0_1l q0_1c, .slice q0_2 q0_2l q0_2c] N.t_Factor) :: L)) ?_ h ⟨_, _, rfl, rfl, (hS.pick (A := [_, _, _, _, _, _, _]) [0, 1, 1, 1, 1, 1] rfl)⟩
              clear h hS
              rintro s w t X q ⟨z21, t24, rfl, rfl, hS⟩ h hX hO
              unfold T_lower_Times_b38 at h
              try dsimp only
              refine cond_s h ?_ ?_ <;> clear h <;> intro hc h
              · replace h := bnd h
                obtain ⟨t25, ht25, h⟩ := h
                obtain ⟨z22, rfl, q23x, q23l, q23r⟩ := atF ht25
                clear ht25
                refine idx_s ((Ent.sl mp1).now (fun _ h => h) hS) q23x q23l q23r ?_; intro b24 hb24
                refine ⟨_, rd_get ((Ent.sl mp1).now (fun _ h => h) hS) hb24 q23x, ?_⟩
                refine ⟨_, _, _, (hS.cel mp5 rfl), ?_⟩
                replace h := bnd h
                obtain ⟨t26, ht26, h⟩ := h
                obtain ⟨z25, rfl, q26x, q26l, q26r⟩ := atF ht26
                clear ht26
                refine idx_s ((hq0_2.mono tl6).now (fun _ h => h) hS) q26x q26l q26r ?_; intro b27 hb27
                refine ⟨_, rd_get ((hq0_2.mono tl6).now (fun _ h => h) hS) hb27 q26x, ?_⟩
                replace h := bnd h
                obtain ⟨t27, ht27, h⟩ := h
                refine fmul_s ht27 hS ?_; clear ht27; rintro z28 _ rfl _
                refine drM_s hS ?_; clear hS; intro w hS
                replace h := bnd h
                obtain ⟨t28, ht28, h⟩ := h
                obtain ⟨z29, rfl, q30x, q30l, q30r⟩ := atF ht28
                clear ht28
                refine idx_s ((Ent.sl mp0).now (fun _ h => h) hS) q30x q30l q30r ?_; intro b31 hb31
                refine ⟨_, rd_get ((Ent.sl mp0).now (fun _ h => h) hS) hb31 q30x, ?_⟩
                replace h := bnd h
                obtain ⟨t29, ht29, h⟩ := h
                refine fmul_s ht29 hS ?_; clear hS ht29; rintro z32 w rfl hS
                replace h := bnd h
                obtain ⟨t30, ht30, h⟩ := h
                refine fadd_s ht30 hS ?_; clear hS ht30; rintro z33 w rfl hS
                obtain rfl := some_inj h
                exact hX _ rfl _ _ ⟨_, _, rfl, rfl, hS⟩
              · obtain rfl := some_inj h
                have h := congrArg some (hO _ rfl)
                obtain rfl := some_inj h
                exact hJ20 _ _ ⟨_, rfl, rfl, (hS.pick (A := [_, _, _, _, _, _]) [1, 1, 1, 1, 1] rfl)⟩
            · clear h20 hS
              rintro s w ⟨z19, rfl, rfl, hS⟩
              have h := c20
              clear c20
              try dsimp only
              refine ⟨_, _, _, (hS.cel mp1 rfl), ?_⟩
              refine ⟨_, _, _, (hS.cel mp1 rfl), ?_⟩
              replace h := bnd h
              obtain ⟨t31, ht31, h⟩ := h
              obtain ⟨z34, rfl, q35x, q35l, q35r⟩ := atF ht31
              clear ht31
              refine idx_s ((Ent.sl mp2).now (fun _ h => h) hS) q35x q35l q35r ?_; intro b36 hb36
              refine drM_s hS ?_; clear hS; intro w hS
              replace hS := ro2 hS
              replace h := bnd h
              obtain ⟨t32, ht32, h⟩ := h
              obtain rfl := setF ht32
              clear ht32
              refine sto_s hS hb36 q35r ?_; clear hS; intro w hS
              refine ⟨(hS.cel mp2 rfl), ?_⟩
              replace h := bnd h
              obtain ⟨t33, ht33, h⟩ := h
              obtain ⟨z37, rfl, q38x, q38l, q38r⟩ := atF ht33
              clear ht33
              refine idx_s ((Ent.sl mp0).now (fun _ h => h) hS) q38x q38l q38r ?_; intro b39 hb39
              refine drM_s hS ?_; clear hS; intro w hS
              replace h := bnd h
              obtain ⟨t34, ht34, h⟩ := h
              obtain rfl := setF ht34
              clear ht34
              refine sto_s hS hb39 q38r ?_; clear hS; intro w hS
              refine drM_s hS ?_; clear hS; intro w hS
              obtain rfl := some_inj h
              exact hX _ rfl _ _ ⟨_, _, rfl, rfl, (hS.pick (A := [_, _, _, _, _]) [1, 1, 0, 0, 0] rfl)⟩
          · obtain rfl := some_inj h
            have h := congrArg some (hO _ rfl)
            obtain rfl := some_inj h
            exact hJ13 _ _ ⟨_, rfl, rfl, (hS.pick (A := [_, _, _, _, _]) [1, 1, 1, 1] rfl)⟩
        · clear h13 hS
          rintro s w ⟨ws12, rfl, rfl, hS⟩
          have h := c13
          clear c13
          try dsimp only
          obtain rfl := some_inj h
          exact hX _ rfl _ _ ⟨_, _, rfl, rfl, hS⟩
      · obtain rfl := some_inj h
        have h := congrArg some (hO _ rfl)
        obtain rfl := some_inj h
        exact hJ6 _ _ ⟨_, rfl, rfl, (hS.pick (A := [_, _, _, _]) [0, 0, 0] rfl)⟩
    · clear h6 hS
      rintro s w ⟨ws5, rfl, rfl, hS⟩
      have h := c6
      clear c6
      try dsimp only
      refine ⟨_, (hS.cel mp0 rfl), ?_⟩
      refine ⟨_, (hS.cel mp0 rfl), ?_⟩
      refine ⟨_, _, _, (hS.cel mp0 rfl), ?_⟩
      replace hS := ro2 hS
      refine stc_s hS rfl rfl ?_; clear hS; intro w hS
      refine stc_s hS rfl rfl ?_; clear hS; intro w hS
      refine stc_s hS rfl rfl ?_; clear hS; intro w hS
      refine ⟨_, (hS.cel mp0 rfl), ?_⟩
      refine ⟨_, (hS.cel mp0 rfl), ?_⟩
      refine ⟨_, _, _, (hS.cel mp0 rfl), ?_⟩
      have h := some_inj h
      cases h
      exact hK _ _ _ _ _ rfl (hS.pick (A := [_, _, _]) [2] rfl)

theorem wk_girderkit_SameMatrix {N : Nums} {P : Program} (H : AllOk N P) {w0 w : World} {L : List It} {q0_0 : Int} {q0_1 : Int} {q0_2 : Option Addr} {q0_2l q0_2c : Nat} {ws0_2 : List Nat} {q1_0 : Int} {q1_1 : Int} {q1_2 : Option Addr} {q1_2l q1_2c : Nat} {ws1_2 : List Nat} {u0 : Bool} (hS : Ho w0 w (L)) (hq0_2 : Ent L (rdA (List.map (Value.float .f64) ws0_2) q0_2 q0_2l q0_2c)) (hq1_2 : Ent L (rdA (List.map (Value.float .f64) ws1_2) q1_2 q1_2l q1_2c)) (hx : T_girderkit_SameMatrix q0_0 q0_1 (List.map nf ws0_2) q1_0 q1_1 (List.map nf ws1_2) = some u0) {K : Value → World → Prop} (hK : ∀  (w1 : World), Ho w0 w1 (L) → K (.bool u0) w1) : CallsX P N.f_girderkit_SameMatrix #[.agg #[.int .i64 q0_0, .int .i64 q0_1, .slice q0_2 q0_2l q0_2c], .agg #[.int .i64 q1_0, .int .i64 q1_1, .slice q1_2 q1_2l q1_2c]] w K := by
  refine H.girderkit_SameMatrix q0_0 q0_1 q0_2 q0_2l q0_2c q1_0 q1_1 q1_2 q1_2l q1_2c w _ ?_
  unfold S_girderkit_SameMatrix
  unfold T_girderkit_SameMatrix at hx
  have h := hx
  clear hx
  try dsimp only
  refine newM_s hS ?_; clear hS; intro r1 w hS
  refine newM_s hS ?_; clear hS; intro r2 w hS
  refine ⟨_, (hS.cel mp1 rfl), ?_⟩
  refine ⟨_, (hS.cel mp0 rfl), ?_⟩
  refine cond_s h ?_ ?_ <;> clear h <;> intro hc h
  · refine ⟨_, (hS.cel mp1 rfl), ?_⟩
    refine ⟨_, (hS.cel mp0 rfl), ?_⟩
    refine cond_s h ?_ ?_ <;> clear h <;> intro hc h
    · refine ⟨_, _, _, (hS.cel mp1 rfl), ?_⟩
      refine ⟨_, _, _, (hS.cel mp0 rfl), ?_⟩
      replace h := bnd h
      obtain ⟨t1, ht1, h⟩ := h
      refine wk_girderkit_SameReals H hS (hq0_2.mono tl2) (hq1_2.mono tl2) ht1 ?_; clear hS ht1; rintro w hS
      refine ⟨_, rfl, ?_⟩
      have h := some_inj h
      cases h
      exact hK _ (hS.pick (A := [_, _]) [] rfl)
    · have h := some_inj h
      cases h
      exact hK _ (hS.pick (A := [_, _]) [] rfl)
  · have h := some_inj h
    cases h
    exact hK _ (hS.pick (A := [_, _]) [] rfl)

theorem wk_girderlaw12_awake {N : Nums} {P : Program} (H : AllOk N P) {w0 w : World} {L : List It}  {u0 : Bool} (hS : Ho w0 w (L))  (hx : T_girderlaw12_awake  = some u0) {K : Value → World → Prop} (hK : ∀  (w1 : World), Ho w0 w1 (L) → K (.bool u0) w1) : CallsX P N.f_girderlaw12_awake #[] w K := by
  refine H.girderlaw12_awake  w _ ?_
  unfold S_girderlaw12_awake
  unfold T_girderlaw12_awake at hx
  have h := hx
  clear hx
  try dsimp only
  replace h := bnd h
  obtain ⟨t1, ht1, h⟩ := h
  obtain rfl : (List.map nf ([4616189618054758400, 4611686018427387904, 4611686018427387904, 4617315517961601024] : List Nat)) = t1 := some_inj ht1
  clear ht1
  refine lit_s (ks := [4616189618054758400, 4611686018427387904, 4611686018427387904, 4617315517961601024]) (enc := (Value.float .f64)) (m := 4) hS rfl rfl ?_; clear hS; intro r1 w hS
  refine newM_s hS ?_; clear hS; intro r2 w hS
  refine stc_s hS rfl rfl ?_; clear hS; intro w hS
  refine stc_s hS rfl rfl ?_; clear hS; intro w hS
  refine stc_s hS rfl rfl ?_; clear hS; intro w hS
  refine ⟨_, (hS.cel mp0 rfl), ?_⟩
  refine ⟨_, (hS.cel mp0 rfl), ?_⟩
  refine ⟨_, _, _, (hS.cel mp0 rfl), ?_⟩
  replace h := bnd h
  obtain ⟨⟨t2, t3, t4, t5, t6⟩, ho2, h⟩ := h
  refine wk_lower_Factor H hS (Ent.sl mp1) ho2 ?_; clear hS ho2; rintro a3 m3 c3 ws3 a4 m4 c4 ws4 w rfl rfl hS
  refine ⟨_, _, _, _, _, _, _, _, _, rfl, ?_⟩
  refine newM_s hS ?_; clear hS; intro r5 w hS
  refine stc_s hS rfl rfl ?_; clear hS; intro w hS
  refine stc_s hS rfl rfl ?_; clear hS; intro w hS
  refine stc_s hS rfl rfl ?_; clear hS; intro w hS
  refine ⟨_, (hS.cel mp0 rfl), ?_⟩
  refine ⟨_, _, _, (hS.cel mp0 rfl), ?_⟩
  refine ⟨_, _, _, (hS.cel mp0 rfl), ?_⟩
  replace h := bnd h
  obtain ⟨⟨t7, t8, t9, t10⟩, ho7, h⟩ := h
  refine wk_lower_Times H hS (Ent.sl mp1) (Ent.sl mp2) ho7 ?_; clear hS ho7; rintro a6 m6 c6 ws6 w rfl hS
  refine ⟨_, _, _, _, _, _, rfl, ?_⟩
  refine newM_s hS ?_; clear hS; intro r7 w hS
  refine stc_s hS rfl rfl ?_; clear hS; intro w hS
  refine stc_s hS rfl rfl ?_; clear hS; intro w hS
  refine stc_s hS rfl rfl ?_; clear hS; intro w hS
  replace h := bnd h
  obtain ⟨t11, ht11, h⟩ := h
  obtain rfl : (List.map nf ([4616189618054758400, 4611686018427387904, 4611686018427387904, 4607182418800017408] : List Nat)) = t11 := some_inj ht11
  clear ht11
  refine lit_s (ks := [4616189618054758400, 4611686018427387904, 4611686018427387904, 4607182418800017408]) (enc := (Value.float .f64)) (m := 4) hS rfl rfl ?_; clear hS; intro r8 w hS
  replace h := bnd h
  obtain ⟨⟨t12, t13, t14, t15, t16⟩, ho12, h⟩ := h
  refine wk_lower_Factor H hS (Ent.sl mp0) ho12 ?_; clear hS ho12; rintro a9 m9 c9 ws9 a10 m10 c10 ws10 w rfl rfl hS
  refine ⟨_, _, _, _, _, _, _, _, _, rfl, ?_⟩
  refine newM_s hS ?_; clear hS; intro r11 w hS
  refine stc_s hS rfl rfl ?_; clear hS; intro w hS
  refine stc_s hS rfl rfl ?_; clear hS; intro w hS
  refine stc_s hS rfl rfl ?_; clear hS; intro w hS
  refine cond_s h ?_ ?_ <;> clear h <;> intro hc h
  · refine cond_s h ?_ ?_ <;> clear h <;> intro hc h
    · refine ⟨_, (hS.cel mp6 rfl), ?_⟩
      refine ⟨_, _, _, (hS.cel mp6 rfl), ?_⟩
      refine ⟨_, _, _, (hS.cel mp6 rfl), ?_⟩
      replace h := bnd h
      obtain ⟨t17, ht17, h⟩ := h
      obtain rfl : (List.map nf ([4602678819172646912] : List Nat)) = t17 := some_inj ht17
      clear ht17
      refine lit_s (ks := [4602678819172646912]) (enc := (Value.float .f64)) (m := 1) hS rfl rfl ?_; clear hS; intro r12 w hS
      replace h := bnd h
      obtain ⟨t18, ht18, h⟩ := h
      obtain rfl : (List.map nf ([4616189618054758400, 4616189618054758400] : List Nat)) = t18 := some_inj ht18
      clear ht18
      refine lit_s (ks := [4616189618054758400, 4616189618054758400]) (enc := (Value.float .f64)) (m := 2) hS rfl rfl ?_; clear hS; intro r13 w hS
      replace h := bnd h
      obtain ⟨t19, ht19, h⟩ := h
      refine wk_girderkit_SameFactor H hS (Ent.sl mp9) (Ent.sl mp10) (Ent.sl mp1) (Ent.sl mp0) ht19 ?_; clear hS ht19; rintro w hS
      refine ⟨_, rfl, ?_⟩
      refine cond_s h ?_ ?_ <;> clear h <;> intro hc h
      · refine cond_s h ?_ ?_ <;> clear h <;> intro hc h
        · refine ⟨_, (hS.cel mp6 rfl), ?_⟩
          refine ⟨_, (hS.cel mp6 rfl), ?_⟩
          refine ⟨_, _, _, (hS.cel mp6 rfl), ?_⟩
          refine ⟨_, (hS.cel mp11 rfl), ?_⟩
          refine ⟨_, (hS.cel mp11 rfl), ?_⟩
          refine ⟨_, _, _, (hS.cel mp11 rfl), ?_⟩
          replace h := bnd h
          obtain ⟨t20, ht20, h⟩ := h
          refine wk_girderkit_SameMatrix H hS (Ent.sl mp7) (Ent.sl mp12) ht20 ?_; clear hS ht20; rintro w hS
          refine ⟨_, rfl, ?_⟩
          refine cond_s h ?_ ?_ <;> clear h <;> intro hc h
          · refine cond_s h ?_ ?_ <;> clear h <;> intro hc h
            · have h := some_inj h
              cases h
              exact hK _ (hS.pick (A := [_, _, _, _, _, _, _, _, _, _, _, _, _]) [] rfl)
            · have h := some_inj h
              cases h
              exact hK _ (hS.pick (A := [_, _, _, _, _, _, _, _, _, _, _, _, _]) [] rfl)
          · have h := some_inj h
            cases h
            exact hK _ (hS.pick (A := [_, _, _, _, _, _, _, _, _, _, _, _, _]) [] rfl)
        · have h := some_inj h
          cases h
          exact hK _ (hS.pick (A := [_, _, _, _, _, _, _, _, _, _, _, _, _]) [] rfl)
      · have h := some_inj h
        cases h
        exact hK _ (hS.pick (A := [_, _, _, _, _, _, _, _, _, _, _, _, _]) [] rfl)
    · have h := some_inj h
      cases h
      exact hK _ (hS.pick (A := [_, _, _, _, _, _, _, _, _, _, _]) [] rfl)
  · have h := some_inj h
    cases h
    exact hK _ (hS.pick (A := [_, _, _, _, _, _, _, _, _, _, _]) [] rfl)

theorem wk_girderlaw12_LowerFactors {N : Nums} {P : Program} (H : AllOk N P) {w0 w : World} {L : List It} {q0_0 : Int} {q0_1 : Int} {q0_2 : Option Addr} {q0_2l q0_2c : Nat} {ws0_2 : List Nat} {u0 : Bool} (hS : Ho w0 w (L)) (hq0_2 : Ent L (rdA (List.map (Value.float .f64) ws0_2) q0_2 q0_2l q0_2c)) (hx : T_girderlaw12_LowerFactors q0_0 q0_1 (List.map nf ws0_2) = some u0) {K : Value → World → Prop} (hK : ∀  (w1 : World), Ho w0 w1 (L) → K (.bool u0) w1) : CallsX P N.f_girderlaw12_LowerFactors #[.agg #[.int .i64 q0_0, .int .i64 q0_1, .slice q0_2 q0_2l q0_2c]] w K := by
  refine H.girderlaw12_LowerFactors q0_0 q0_1 q0_2 q0_2l q0_2c w _ ?_
  unfold S_girderlaw12_LowerFactors
  unfold T_girderlaw12_LowerFactors at hx
  have h := hx
  clear hx
  try dsimp only
  refine newM_s hS ?_; clear hS; intro r1 w hS
  replace h := bnd h
  obtain ⟨o2, h2, c2⟩ := h
  refine cutM_i (fun s w =>  .inl () = o2 ∧ s = (()) ∧ Ho w0 w (L)) (fun J2 hJ2 => ?_) ?_
  · have h := h2
    clear h2
    replace hS := hS.voidItem
    refine iter_sim (fun s w t => ∃ (t1 : Int) (t2 : Int) (t3 : Int) (a3 : Option Addr) (m4 : Nat) (c5 : Nat) (ws6 : List Nat) (it7 : It), (t1, t2, t3, (List.map nf ws6)) = t ∧ s = (t1, ()) ∧ Ent (it7 :: L) (rdA (List.map (Value.float .f64) ws6) a3 m4 c5) ∧ Ho w0 w ((cl r1 [.int .i64 t2, .int .i64 t3, .slice a3 m4 c5] N.t_Matrix) :: it7 :: L)) ?_ h ⟨_, _, _, _, _, _, _, _, rfl, rfl, (hq0_2.mono tl1), (hS.pick (A := [_, _]) [1, 0] rfl)⟩
    clear h hS
    rintro s w t X q ⟨t1, t2, t3, a3, m4, c5, ws6, it7, rfl, rfl, e8, hS⟩ h hX hO
    unfold T_girderlaw12_LowerFactors_b2 at h
    try dsimp only
    refine cond_s h ?_ ?_ <;> clear h <;> intro hc h
    · refine ⟨_, (hS.cel mp0 rfl), ?_⟩
      refine ⟨_, (hS.cel mp0 rfl), ?_⟩
      refine ⟨_, _, _, (hS.cel mp0 rfl), ?_⟩
      replace h := bnd h
      obtain ⟨⟨t5, t6, t7, t8, t9⟩, ho5, h⟩ := h
      refine wk_lower_Factor H hS (e8.mono (incl_cons mp1 tl2)) ho5 ?_; clear hS ho5; rintro a9 m9 c9 ws9 a10 m10 c10 ws10 w rfl rfl hS
      refine ⟨_, _, _, _, _, _, _, _, _, rfl, ?_⟩
      refine newM_s hS ?_; clear hS; intro r11 w hS
      refine stc_s hS rfl rfl ?_; clear hS; intro w hS
      refine stc_s hS rfl rfl ?_; clear hS; intro w hS
      refine stc_s hS rfl rfl ?_; clear hS; intro w hS
      refine ⟨_, (hS.cel mp3 rfl), ?_⟩
      refine ⟨_, (hS.cel mp3 rfl), ?_⟩
      refine ⟨_, _, _, (hS.cel mp3 rfl), ?_⟩
      replace h := bnd h
      obtain ⟨⟨t10, t11, t12, t13, t14⟩, ho10, h⟩ := h
      refine wk_girderref12_Factor H hS (e8.mono (incl_cons mp4 tl5)) ho10 ?_; clear hS ho10; rintro a12 m12 c12 ws12 a13 m13 c13 ws13 w rfl rfl hS
      refine ⟨_, _, _, _, _, _, _, _, _, rfl, ?_⟩
      refine newM_s hS ?_; clear hS; intro r14 w hS
      refine stc_s hS rfl rfl ?_; clear hS; intro w hS
      refine stc_s hS rfl rfl ?_; clear hS; intro w hS
      refine stc_s hS rfl rfl ?_; clear hS; intro w hS
      refine ⟨_, (hS.cel mp3 rfl), ?_⟩
      refine ⟨_, _, _, (hS.cel mp3 rfl), ?_⟩
      refine ⟨_, _, _, (hS.cel mp3 rfl), ?_⟩
      refine ⟨_, (hS.cel mp0 rfl), ?_⟩
      refine ⟨_, _, _, (hS.cel mp0 rfl), ?_⟩
      refine ⟨_, _, _, (hS.cel mp0 rfl), ?_⟩
      replace h := bnd h
      obtain ⟨t15, ht15, h⟩ := h
      refine wk_girderkit_SameFactor H hS (Ent.sl mp4) (Ent.sl mp5) (Ent.sl mp1) (Ent.sl mp2) ht15 ?_; clear hS ht15; rintro w hS
      refine ⟨_, rfl, ?_⟩
      refine cond_s h ?_ ?_ <;> clear h <;> intro hc h
      · refine cond_s h ?_ ?_ <;> clear h <;> intro hc h
        · refine cond_s h ?_ ?_ <;> clear h <;> intro hc h
          · obtain rfl := some_inj h
            have h := congrArg some (hO _ rfl)
            obtain rfl := some_inj h
            have h := c2
            have h := some_inj h
            cases h
            exact hK _ (hS.pick (A := [_, _, _, _, _, _, _, _]) [] rfl)
          · refine ⟨_, (hS.cel mp6 rfl), ?_⟩
            refine ⟨_, (hS.cel mp6 rfl), ?_⟩
            refine ⟨_, _, _, (hS.cel mp6 rfl), ?_⟩
            replace h := bnd h
            obtain ⟨⟨t16, t17, t18⟩, ho16, h⟩ := h
            refine wk_girderlaw12_mirrored H hS (e8.mono (incl_cons mp7 tl8)) ho16 ?_; clear hS ho16; rintro a15 m15 c15 ws15 w rfl hS
            refine ⟨_, _, _, _, _, rfl, ?_⟩
            replace hS := ro7 hS
            refine stc_s hS rfl rfl ?_; clear hS; intro w hS
            refine stc_s hS rfl rfl ?_; clear hS; intro w hS
            refine stc_s hS rfl rfl ?_; clear hS; intro w hS
            obtain rfl := some_inj h
            exact hX _ rfl _ _ ⟨_, _, _, _, _, _, _, _, rfl, rfl, (Ent.sl mp0), (hS.pick (A := [_, _, _, _, _, _, _, _, _]) [0, 0] rfl)⟩
        · obtain rfl := some_inj h
          have h := congrArg some (hO _ rfl)
          obtain rfl := some_inj h
          have h := c2
          have h := some_inj h
          cases h
          exact hK _ (hS.pick (A := [_, _, _, _, _, _, _, _]) [] rfl)
      · obtain rfl := some_inj h
        have h := congrArg some (hO _ rfl)
        obtain rfl := some_inj h
        have h := c2
        have h := some_inj h
        cases h
        exact hK _ (hS.pick (A := [_, _, _, _, _, _, _, _]) [] rfl)
    · obtain rfl := some_inj h
      have h := congrArg some (hO _ rfl)
      obtain rfl := some_inj h
      exact hJ2 _ _ ⟨rfl, rfl, (hS.pick (A := [_, _]) [] rfl)⟩
  · clear h2 hS
    rintro s w ⟨rfl, rfl, hS⟩
    have h := c2
    clear c2
    try dsimp only
    replace h := bnd h
    obtain ⟨t19, ht19, h⟩ := h
    refine wk_girderlaw12_awake H hS  ht19 ?_; clear hS ht19; rintro w hS
    refine ⟨_, rfl, ?_⟩
    have h := some_inj h
    cases h
    exact hK _ hS

theorem wk_girderref12_Right {N : Nums} {P : Program} (H : AllOk N P) {w0 w : World} {L : List It} {q0_0 : Int} {q0_1 : Option Addr} {q0_1l q0_1c : Nat} {ws0_1 : List Nat} {q0_2 : Option Addr} {q0_2l q0_2c : Nat} {ws0_2 : List Nat} {u0 : Bool} (hS : Ho w0 w (L)) (hq0_1 : Ent L (rdA (List.map (Value.float .f64) ws0_1) q0_1 q0_1l q0_1c)) (hq0_2 : Ent L (rdA (List.map (Value.float .f64) ws0_2) q0_2 q0_2l q0_2c)) (hx : T_girderref12_Right q0_0 (List.map nf ws0_1) (List.map nf ws0_2) = some u0) {K : Value → World → Prop} (hK : ∀  (w1 : World), Ho w0 w1 (L) → K (.bool u0) w1) : CallsX P N.f_girderref12_Right #[.agg #[.int .i64 q0_0, .slice q0_1 q0_1l q0_1c, .slice q0_2 q0_2l q0_2c]] w K := by
  refine H.girderref12_Right q0_0 q0_1 q0_1l q0_1c q0_2 q0_2l q0_2c w _ ?_
  unfold S_girderref12_Right
  unfold T_girderref12_Right at hx
  have h := hx
  clear hx
  try dsimp only
  refine newM_s hS ?_; clear hS; intro r1 w hS
  refine ⟨_, (hS.cel mp0 rfl), ?_⟩
  refine cond_s h ?_ ?_ <;> clear h <;> intro hc h
  · refine ⟨_, (hS.cel mp0 rfl), ?_⟩
    refine cond_s h ?_ ?_ <;> clear h <;> intro hc h
    · refine ⟨_, _, _, (hS.cel mp0 rfl), ?_⟩
      replace h := bnd h
      obtain ⟨t1, ht1, h⟩ := h
      obtain rfl := lenF ht1 ((hq0_1.mono tl1).now (fun _ h => h) hS)
      clear ht1
      refine ⟨_, (hS.cel mp0 rfl), ?_⟩
      refine ⟨_, (hS.cel mp0 rfl), ?_⟩
      refine ⟨by decide, ?_⟩
      refine cond_s h ?_ ?_ <;> clear h <;> intro hc h
      · refine ⟨_, _, _, (hS.cel mp0 rfl), ?_⟩
        replace h := bnd h
        obtain ⟨t2, ht2, h⟩ := h
        obtain rfl := lenF ht2 ((hq0_2.mono tl1).now (fun _ h => h) hS)
        clear ht2
        refine ⟨_, (hS.cel mp0 rfl), ?_⟩
        have h := some_inj h
        cases h
        exact hK _ (hS.pick (A := [_]) [] rfl)
      · have h := some_inj h
        cases h
        exact hK _ (hS.pick (A := [_]) [] rfl)
    · have h := some_inj h
      cases h
      exact hK _ (hS.pick (A := [_]) [] rfl)
  · have h := some_inj h
    cases h
    exact hK _ (hS.pick (A := [_]) [] rfl)

theorem wk_girderref12_Times {N : Nums} {P : Program} (H : AllOk N P) {w0 w : World} {L : List It} {q0_0 : Int} {q0_1 : Option Addr} {q0_1l q0_1c : Nat} {ws0_1 : List Nat} {q0_2 : Option Addr} {q0_2l q0_2c : Nat} {ws0_2 : List Nat} {u0 : Int} {u1 : Int} {u2 : List Nat} {u3 : Int} (hS : Ho w0 w (L)) (hq0_1 : Ent L (rdA (List.map (Value.float .f64) ws0_1) q0_1 q0_1l q0_1c)) (hq0_2 : Ent L (rdA (List.map (Value.float .f64) ws0_2) q0_2 q0_2l q0_2c)) (hx : T_girderref12_Times q0_0 (List.map nf ws0_1) (List.map nf ws0_2) = some (u0, u1, u2, u3)) {K : Value → World → Prop} (hK : ∀ (a2 : Option Addr) (n2 c2 : Nat) (rws2 : List Nat) (w1 : World), List.map nf rws2 = u2 → Ho w0 w1 ((sl a2 n2 c2 (List.map (Value.float .f64) rws2) N.t_float64) :: L) → K (.tuple #[.agg #[.int .i64 u0, .int .i64 u1, .slice a2 n2 c2], .int .i64 u3]) w1) : CallsX P N.f_girderref12_Times #[.agg #[.int .i64 q0_0, .slice q0_1 q0_1l q0_1c, .slice q0_2 q0_2l q0_2c]] w K := by
  refine H.girderref12_Times q0_0 q0_1 q0_1l q0_1c q0_2 q0_2l q0_2c w _ ?_
  unfold S_girderref12_Times
  unfold T_girderref12_Times at hx
  have h := hx
  clear hx
  try dsimp only
  refine newM_s hS ?_; clear hS; intro r1 w hS
  refine newM_s hS ?_; clear hS; intro r2 w hS
  refine ⟨_, (hS.cel mp1 rfl), ?_⟩
  refine ⟨_, _, _, (hS.cel mp1 rfl), ?_⟩
  refine ⟨_, _, _, (hS.cel mp1 rfl), ?_⟩
  replace h := bnd h
  obtain ⟨t1, ht1, h⟩ := h
  refine wk_girderref12_Right H hS (hq0_1.mono tl2) (hq0_2.mono tl2) ht1 ?_; clear hS ht1; rintro w hS
  refine ⟨_, rfl, ?_⟩
  refine cond_s h ?_ ?_ <;> clear h <;> intro hc h
  · refine stc_s hS rfl rfl ?_; clear hS; intro w hS
    refine stc_s hS rfl rfl ?_; clear hS; intro w hS
    refine stc_s hS rfl rfl ?_; clear hS; intro w hS
    refine ⟨_, (hS.cel mp0 rfl), ?_⟩
    refine ⟨_, (hS.cel mp0 rfl), ?_⟩
    refine ⟨_, _, _, (hS.cel mp0 rfl), ?_⟩
    replace hS := hS.none (α := Nat) (enc := (Value.float .f64)) (t := N.t_float64)
    have h := some_inj h
    cases h
    exact hK _ _ _ _ _ rfl (hS.pick (A := [_, _, _]) [0] rfl)
  · replace h := bnd h
    obtain ⟨o6, h6, c6⟩ := h
    refine cutM_i (fun s w => ∃ (r3 : Nat) (r4 : Nat) (ws5 : List Nat), (List.map nf ws5) = o6 ∧ s = ((some ⟨r3, 0, none⟩), ()) ∧ Ho w0 w ((cl r3 [.int .i64 q0_0, .int .i64 q0_0, .slice (some ⟨r4, 0, none⟩) (((IntKind.i64.wrap (q0_0 * q0_0))).toNat) (((IntKind.i64.wrap (q0_0 * q0_0))).toNat)] N.t_Matrix) :: (sl (some ⟨r4, 0, none⟩) (((IntKind.i64.wrap (q0_0 * q0_0))).toNat) (((IntKind.i64.wrap (q0_0 * q0_0))).toNat) (List.map (Value.float .f64) ws5) N.t_float64) :: (cl r2 [.int .i64 0, .int .i64 0, .slice none 0 0] N.t_Matrix) :: (cl r1 [.int .i64 q0_0, .slice q0_1 q0_1l q0_1c, .slice q0_2 q0_2l q0_2c] N.t_Factor) :: L)) (fun J6 hJ6 => ?_) ?_
    · have h := h6
      clear h6
      refine ⟨_, (hS.cel mp1 rfl), ?_⟩
      refine ⟨_, (hS.cel mp1 rfl), ?_⟩
      refine ⟨_, (hS.cel mp1 rfl), ?_⟩
      refine ⟨_, (hS.cel mp1 rfl), ?_⟩
      refine ⟨?_, ?_⟩
      · refine drM_s hS ?_; clear hS; intro w hS
        replace h := bnd h
        obtain ⟨t3, ht3, h⟩ := h
        obtain ⟨rfl, kt3⟩ := mkF ht3
        clear ht3
        refine mk_s (enc := (Value.float .f64)) hS kt3 rfl ?_; clear hS kt3; intro r7 w hS
        refine ⟨(hS.cel mp2 rfl), ?_⟩
        refine ⟨(hS.cel mp2 rfl), ?_⟩
        refine drM_s hS ?_; clear hS; intro w hS
        refine newM_s hS ?_; clear hS; intro r8 w hS
        refine ⟨(hS.cel mp3 rfl), ?_⟩
        refine ⟨(hS.cel mp3 rfl), ?_⟩
        refine drM_s hS ?_; clear hS; intro w hS
        refine stc_s hS rfl rfl ?_; clear hS; intro w hS
        refine stc_s hS rfl rfl ?_; clear hS; intro w hS
        refine stc_s hS rfl rfl ?_; clear hS; intro w hS
        refine drM_s hS ?_; clear hS; intro w hS
        obtain rfl := some_inj h
        exact hJ6 _ _ ⟨_, _, _, rfl, rfl, hS⟩
      · refine drM_s hS ?_; clear hS; intro w hS
        refine newM_s hS ?_; clear hS; intro r9 w hS
        refine ⟨(hS.cel mp2 rfl), ?_⟩
        refine ⟨(hS.cel mp2 rfl), ?_⟩
        refine ⟨(hS.cel mp2 rfl), ?_⟩
        refine ⟨(hS.cel mp2 rfl), ?_⟩
        refine drM_s hS ?_; clear hS; intro w hS
        replace h := bnd h
        obtain ⟨t3, ht3, h⟩ := h
        obtain ⟨rfl, kt3⟩ := mkF ht3
        clear ht3
        refine mk_s (enc := (Value.float .f64)) hS kt3 rfl ?_; clear hS kt3; intro r10 w hS
        refine ⟨(hS.cel mp3 rfl), ?_⟩
        refine ⟨(hS.cel mp3 rfl), ?_⟩
        refine drM_s hS ?_; clear hS; intro w hS
        replace hS := ro1 hS
        refine stc_s hS rfl rfl ?_; clear hS; intro w hS
        refine stc_s hS rfl rfl ?_; clear hS; intro w hS
        refine stc_s hS rfl rfl ?_; clear hS; intro w hS
        refine drM_s hS ?_; clear hS; intro w hS
        obtain rfl := some_inj h
        exact hJ6 _ _ ⟨_, _, _, rfl, rfl, hS⟩
    · clear h6 hS
      rintro s w ⟨r3, r4, ws5, rfl, rfl, hS⟩
      have h := c6
      clear c6
      try dsimp only
      replace h := bnd h
      obtain ⟨o12, h12, c12⟩ := h
      refine cutM_i (fun s w => ∃ (ws11 : List Nat), (List.map nf ws11) = o12 ∧ s = (()) ∧ Ho w0 w ((cl r3 [.int .i64 q0_0, .int .i64 q0_0, .slice (some ⟨r4, 0, none⟩) (((IntKind.i64.wrap (q0_0 * q0_0))).toNat) (((IntKind.i64.wrap (q0_0 * q0_0))).toNat)] N.t_Matrix) :: (sl (some ⟨r4, 0, none⟩) (((IntKind.i64.wrap (q0_0 * q0_0))).toNat) (((IntKind.i64.wrap (q0_0 * q0_0))).toNat) (List.map (Value.float .f64) ws11) N.t_float64) :: (cl r2 [.int .i64 0, .int .i64 0, .slice none 0 0] N.t_Matrix) :: L)) (fun J12 hJ12 => ?_) ?_
      · have h := h12
        clear h12
        refine iter_sim (fun s w t => ∃ (t5 : Int) (ws13 : List Nat), (t5, (List.map nf ws13)) = t ∧ s = (t5, ()) ∧ Ho w0 w ((cl r3 [.int .i64 q0_0, .int .i64 q0_0, .slice (some ⟨r4, 0, none⟩) (((IntKind.i64.wrap (q0_0 * q0_0))).toNat) (((IntKind.i64.wrap (q0_0 * q0_0))).toNat)] N.t_Matrix) :: (sl (some ⟨r4, 0, none⟩) (((IntKind.i64.wrap (q0_0 * q0_0))).toNat) (((IntKind.i64.wrap (q0_0 * q0_0))).toNat) (List.map (Value.float .f64) ws13) N.t_float64) :: (cl r2 [.int .i64 0, .int .i64 0, .slice none 0 0] N.t_Matrix) :: (cl r1 [.int .i64 q0_0, .slice q0_1 q0_1l q0_1c, .slice q0_2 q0_2l q0_2c] N.t_Factor) :: L)) ?_ h ⟨_, _, rfl, rfl, hS⟩
        clear h hS
        rintro s w t X q ⟨t5, ws13, rfl, rfl, hS⟩ h hX hO
        unfold T_girderref12_Times_b27 at h
        try dsimp only
        refine ⟨_, (hS.cel mp3 rfl), ?_⟩
        refine cond_s h ?_ ?_ <;> clear h <;> intro hc h
        · replace h := bnd h
          obtain ⟨o15, h15, c15⟩ := h
          refine cutM_i (fun s w => ∃ (ws14 : List Nat), (List.map nf ws14) = o15 ∧ s = (()) ∧ Ho w0 w ((cl r3 [.int .i64 q0_0, .int .i64 q0_0, .slice (some ⟨r4, 0, none⟩) (((IntKind.i64.wrap (q0_0 * q0_0))).toNat) (((IntKind.i64.wrap (q0_0 * q0_0))).toNat)] N.t_Matrix) :: (sl (some ⟨r4, 0, none⟩) (((IntKind.i64.wrap (q0_0 * q0_0))).toNat) (((IntKind.i64.wrap (q0_0 * q0_0))).toNat) (List.map (Value.float .f64) ws14) N.t_float64) :: (cl r2 [.int .i64 0, .int .i64 0, .slice none 0 0] N.t_Matrix) :: (cl r1 [.int .i64 q0_0, .slice q0_1 q0_1l q0_1c, .slice q0_2 q0_2l q0_2c] N.t_Factor) :: L)) (fun J15 hJ15 => ?_) ?_
          · have h := h15
            clear h15
            refine iter_sim (fun s w t => ∃ (t8 : Int) (ws16 : List Nat), (t8, (List.map nf ws16)) = t ∧ s = (t8, ()) ∧ Ho w0 w ((cl r3 [.int .i64 q0_0, .int .i64 q0_0, .slice (some ⟨r4, 0, none⟩) (((IntKind.i64.wrap (q0_0 * q0_0))).toNat) (((IntKind.i64.wrap (q0_0 * q0_0))).toNat)] N.t_Matrix) :: (sl (some ⟨r4, 0, none⟩) (((IntKind.i64.wrap (q0_0 * q0_0))).toNat) (((IntKind.i64.wrap (q0_0 * q0_0))).toNat) (List.map (Value.float .f64) ws16) N.t_float64) :: (cl r2 [.int .i64 0, .int .i64 0, .slice none 0 0] N.t_Matrix) :: (cl r1 [.int .i64 q0_0, .slice q0_1 q0_1l q0_1c, .slice q0_2 q0_2l q0_2c] N.t_Factor) :: L)) ?_ h ⟨_, _, rfl, rfl, hS⟩
            clear h hS
            rintro s w t X q ⟨t8, ws16, rfl, rfl, hS⟩ h hX hO
            unfold T_girderref12_Times_b36 at h
            try dsimp only
            refine cond_s h ?_ ?_ <;> clear h <;> intro hc h
            · replace h := bnd h
              obtain ⟨o18, h18, c18⟩ := h
              refine cutM_i (fun s w => ∃ (z17 : Nat), (nf z17) = o18 ∧ s = (z17, ()) ∧ Ho w0 w ((cl r3 [.int .i64 q0_0, .int .i64 q0_0, .slice (some ⟨r4, 0, none⟩) (((IntKind.i64.wrap (q0_0 * q0_0))).toNat) (((IntKind.i64.wrap (q0_0 * q0_0))).toNat)] N.t_Matrix) :: (sl (some ⟨r4, 0, none⟩) (((IntKind.i64.wrap (q0_0 * q0_0))).toNat) (((IntKind.i64.wrap (q0_0 * q0_0))).toNat) (List.map (Value.float .f64) ws16) N.t_float64) :: (cl r2 [.int .i64 0, .int .i64 0, .slice none 0 0] N.t_Matrix) :: (cl r1 [.int .i64 q0_0, .slice q0_1 q0_1l q0_1c, .slice q0_2 q0_2l q0_2c] N.t_Factor) :: L)) (fun J18 hJ18 => ?_) ?_
              · have h := h18
                clear h18
                refine iter_sim (fun s w t => ∃ (z19 : Nat) (t12 : Int), ((nf z19), t12) = t ∧ s = (z19, t12, ()) ∧ Ho w0 w ((cl r3 [.int .i64 q0_0, .int .i64 q0_0, .slice (some ⟨r4, 0, none⟩) (((IntKind.i64.wrap (q0_0 * q0_0))).toNat) (((IntKind.i64.wrap (q0_0 * q0_0))).toNat)] N.t_Matrix) :: (sl (some ⟨r4, 0, none⟩) (((IntKind.i64.wrap (q0_0 * q0_0))).toNat) (((IntKind.i64.wrap (q0_0 * q0_0))).toNat) (List.map (Value.float .f64) ws16) N.t_float64) :: (cl r2 [.int .i64 0, .int .i64 0, .slice none 0 0] N.t_Matrix) :: (cl r1 [.int .i64 q0_0, .slice q0_1 q0_1l q0_1c, .slice q0_2 q0_2l q0_2c] N.t_Factor) :: L)) ?_ h ⟨_, _, rfl, rfl, hS⟩
                clear h hS
                rintro s w t X q ⟨z19, t12, rfl, rfl, hS⟩ h hX hO
                unfold T_girderref12_Times_b38 at h
                try dsimp only
                refine cond_s h ?_ ?_ <;> clear h <;> intro hc h
                · refine ⟨_, _, _, (hS.cel mp3 rfl), ?_⟩
                  refine ⟨_, _, _, (hS.cel mp3 rfl), ?_⟩
                  replace h := bnd h
                  obtain ⟨t13, ht13, h⟩ := h
                  obtain ⟨z20, rfl, q21x, q21l, q21r⟩ := atF ht13
                  clear ht13
                  refine idx_s ((hq0_2.mono tl4).now (fun _ h => h) hS) q21x q21l q21r ?_; intro b22 hb22
                  refine ⟨_, rd_get ((hq0_2.mono tl4).now (fun _ h => h) hS) hb22 q21x, ?_⟩
                  refine drM_s hS ?_; clear hS; intro w hS
                  replace h := bnd h
                  obtain ⟨t14, ht14, h⟩ := h
                  refine wk_girderref12_At H hS (hq0_1.mono tl4) ht14 ?_; clear hS ht14; rintro z23 w rfl hS
                  refine ⟨_, rfl, ?_⟩
                  refine ⟨rd_get ((hq0_2.mono tl4).now (fun _ h => h) hS) hb22 q21x, ?_⟩
                  refine ⟨(hS.cel mp3 rfl), ?_⟩
                  replace h := bnd h
                  obtain ⟨t15, ht15, h⟩ := h
                  refine fmul_s ht15 hS ?_; clear ht15; rintro z24 _ rfl _
                  refine drM_s hS ?_; clear hS; intro w hS
                  refine ⟨_, _, _, (hS.cel mp3 rfl), ?_⟩
                  replace h := bnd h
                  obtain ⟨t16, ht16, h⟩ := h
                  refine wk_girderref12_At H hS (hq0_1.mono tl4) ht16 ?_; clear hS ht16; rintro z25 w rfl hS
                  refine ⟨_, rfl, ?_⟩
                  replace h := bnd h
                  obtain ⟨t17, ht17, h⟩ := h
                  refine fmul_s ht17 hS ?_; clear hS ht17; rintro z26 w rfl hS
                  replace h := bnd h
                  obtain ⟨t18, ht18, h⟩ := h
                  refine fadd_s ht18 hS ?_; clear hS ht18; rintro z27 w rfl hS
                  obtain rfl := some_inj h
                  exact hX _ rfl _ _ ⟨_, _, rfl, rfl, hS⟩
                · obtain rfl := some_inj h
                  have h := congrArg some (hO _ rfl)
                  obtain rfl := some_inj h
                  exact hJ18 _ _ ⟨_, rfl, rfl, hS⟩
              · clear h18 hS
                rintro s w ⟨z17, rfl, rfl, hS⟩
                have h := c18
                clear c18
                try dsimp only
                refine optM_s ?_
                refine ⟨_, _, _, (hS.cel mp0 rfl), ?_⟩
                refine ⟨_, (hS.cel mp3 rfl), ?_⟩
                replace h := bnd h
                obtain ⟨t19, ht19, h⟩ := h
                obtain ⟨z28, rfl, q29x, q29l, q29r⟩ := atF ht19
                clear ht19
                refine idx_s ((Ent.sl mp1).now (fun _ h => h) hS) q29x q29l q29r ?_; intro b30 hb30
                replace hS := ro1 hS
                replace h := bnd h
                obtain ⟨t20, ht20, h⟩ := h
                obtain rfl := setF ht20
                clear ht20
                refine sto_s hS hb30 q29r ?_; clear hS; intro w hS
                refine optM_s ?_
                refine ⟨_, _, _, (hS.cel mp1 rfl), ?_⟩
                refine ⟨_, (hS.cel mp3 rfl), ?_⟩
                replace h := bnd h
                obtain ⟨t21, ht21, h⟩ := h
                obtain ⟨z31, rfl, q32x, q32l, q32r⟩ := atF ht21
                clear ht21
                refine idx_s ((Ent.sl mp0).now (fun _ h => h) hS) q32x q32l q32r ?_; intro b33 hb33
                replace h := bnd h
                obtain ⟨t22, ht22, h⟩ := h
                obtain rfl := setF ht22
                clear ht22
                refine sto_s hS hb33 q32r ?_; clear hS; intro w hS
                obtain rfl := some_inj h
                exact hX _ rfl _ _ ⟨_, _, rfl, rfl, (hS.pick (A := [_, _, _, _]) [1, 0, 0, 0] rfl)⟩
            · obtain rfl := some_inj h
              have h := congrArg some (hO _ rfl)
              obtain rfl := some_inj h
              exact hJ15 _ _ ⟨_, rfl, rfl, hS⟩
          · clear h15 hS
            rintro s w ⟨ws14, rfl, rfl, hS⟩
            have h := c15
            clear c15
            try dsimp only
            obtain rfl := some_inj h
            exact hX _ rfl _ _ ⟨_, _, rfl, rfl, hS⟩
        · obtain rfl := some_inj h
          have h := congrArg some (hO _ rfl)
          obtain rfl := some_inj h
          exact hJ12 _ _ ⟨_, rfl, rfl, (hS.pick (A := [_, _, _, _]) [0, 0, 0] rfl)⟩
      · clear h12 hS
        rintro s w ⟨ws11, rfl, rfl, hS⟩
        have h := c12
        clear c12
        try dsimp only
        refine optM_s ?_
        refine ⟨_, (hS.cel mp0 rfl), ?_⟩
        refine ⟨_, (hS.cel mp0 rfl), ?_⟩
        refine ⟨_, _, _, (hS.cel mp0 rfl), ?_⟩
        replace hS := ro2 hS
        refine stc_s hS rfl rfl ?_; clear hS; intro w hS
        refine stc_s hS rfl rfl ?_; clear hS; intro w hS
        refine stc_s hS rfl rfl ?_; clear hS; intro w hS
        refine ⟨_, (hS.cel mp0 rfl), ?_⟩
        refine ⟨_, (hS.cel mp0 rfl), ?_⟩
        refine ⟨_, _, _, (hS.cel mp0 rfl), ?_⟩
        have h := some_inj h
        cases h
        exact hK _ _ _ _ _ rfl (hS.pick (A := [_, _, _]) [2] rfl)

theorem wk_girderlaw12_LowerTimes {N : Nums} {P : Program} (H : AllOk N P) {w0 w : World} {L : List It} {q0_0 : Int} {q0_1 : Option Addr} {q0_1l q0_1c : Nat} {ws0_1 : List Nat} {q0_2 : Option Addr} {q0_2l q0_2c : Nat} {ws0_2 : List Nat} {u0 : Bool} (hS : Ho w0 w (L)) (hq0_1 : Ent L (rdA (List.map (Value.float .f64) ws0_1) q0_1 q0_1l q0_1c)) (hq0_2 : Ent L (rdA (List.map (Value.float .f64) ws0_2) q0_2 q0_2l q0_2c)) (hx : T_girderlaw12_LowerTimes q0_0 (List.map nf ws0_1) (List.map nf ws0_2) = some u0) {K : Value → World → Prop} (hK : ∀  (w1 : World), Ho w0 w1 (L) → K (.bool u0) w1) : CallsX P N.f_girderlaw12_LowerTimes #[.agg #[.int .i64 q0_0, .slice q0_1 q0_1l q0_1c, .slice q0_2 q0_2l q0_2c]] w K := by
  refine H.girderlaw12_LowerTimes q0_0 q0_1 q0_1l q0_1c q0_2 q0_2l q0_2c w _ ?_
  unfold S_girderlaw12_LowerTimes
  unfold T_girderlaw12_LowerTimes at hx
  have h := hx
  clear hx
  try dsimp only
  refine newM_s hS ?_; clear hS; intro r1 w hS
  replace h := bnd h
  obtain ⟨o2, h2, c2⟩ := h
  refine cutM_i (fun s w =>  .inl () = o2 ∧ s = (()) ∧ Ho w0 w (L)) (fun J2 hJ2 => ?_) ?_
  · have h := h2
    clear h2
    replace hS := hS.voidItem
    replace hS := hS.voidItem
    refine iter_sim (fun s w t => ∃ (t1 : Int) (t2 : Int) (a3 : Option Addr) (m4 : Nat) (c5 : Nat) (ws6 : List Nat) (it7 : It) (a9 : Option Addr) (m10 : Nat) (c11 : Nat) (ws12 : List Nat) (it13 : It), (t1, t2, (List.map nf ws6), (List.map nf ws12)) = t ∧ s = (t1, ()) ∧ Ent (it7 :: L) (rdA (List.map (Value.float .f64) ws6) a3 m4 c5) ∧ Ent (it13 :: L) (rdA (List.map (Value.float .f64) ws12) a9 m10 c11) ∧ Ho w0 w ((cl r1 [.int .i64 t2, .slice a3 m4 c5, .slice a9 m10 c11] N.t_Factor) :: it7 :: it13 :: L)) ?_ h ⟨_, _, _, _, _, _, _, _, _, _, _, _, rfl, rfl, (hq0_1.mono tl1), (hq0_2.mono tl1), (hS.pick (A := [_, _, _]) [2, 1, 0] rfl)⟩
    clear h hS
    rintro s w t X q ⟨t1, t2, a3, m4, c5, ws6, it7, a9, m10, c11, ws12, it13, rfl, rfl, e8, e14, hS⟩ h hX hO
    unfold T_girderlaw12_LowerTimes_b7 at h
    try dsimp only
    refine cond_s h ?_ ?_ <;> clear h <;> intro hc h
    · refine ⟨_, (hS.cel mp0 rfl), ?_⟩
      refine ⟨_, _, _, (hS.cel mp0 rfl), ?_⟩
      refine ⟨_, _, _, (hS.cel mp0 rfl), ?_⟩
      replace h := bnd h
      obtain ⟨⟨t5, t6, t7, t8⟩, ho5, h⟩ := h
      refine wk_lower_Times H hS (e8.mono (incl_cons mp1 tl3)) (e14.mono (incl_cons mp2 tl3)) ho5 ?_; clear hS ho5; rintro a15 m15 c15 ws15 w rfl hS
      refine ⟨_, _, _, _, _, _, rfl, ?_⟩
      refine newM_s hS ?_; clear hS; intro r16 w hS
      refine stc_s hS rfl rfl ?_; clear hS; intro w hS
      refine stc_s hS rfl rfl ?_; clear hS; intro w hS
      refine stc_s hS rfl rfl ?_; clear hS; intro w hS
      refine ⟨_, (hS.cel mp2 rfl), ?_⟩
      refine ⟨_, _, _, (hS.cel mp2 rfl), ?_⟩
      refine ⟨_, _, _, (hS.cel mp2 rfl), ?_⟩
      replace h := bnd h
      obtain ⟨⟨t9, t10, t11, t12⟩, ho9, h⟩ := h
      refine wk_girderref12_Times H hS (e8.mono (incl_cons mp3 tl5)) (e14.mono (incl_cons mp4 tl5)) ho9 ?_; clear hS ho9; rintro a17 m17 c17 ws17 w rfl hS
      refine ⟨_, _, _, _, _, _, rfl, ?_⟩
      refine newM_s hS ?_; clear hS; intro r18 w hS
      refine stc_s hS rfl rfl ?_; clear hS; intro w hS
      refine stc_s hS rfl rfl ?_; clear hS; intro w hS
      refine stc_s hS rfl rfl ?_; clear hS; intro w hS
      replace h := bnd h
      obtain ⟨o19, h19, c19⟩ := h
      refine cutM_i (fun s w => ∃ (t13 : Bool), t13 = o19 ∧ s = (t13, ()) ∧ Ho w0 w ((cl r1 [.int .i64 t2, .slice a3 m4 c5, .slice a9 m10 c11] N.t_Factor) :: it7 :: it13 :: L)) (fun J19 hJ19 => ?_) ?_
      · have h := h19
        clear h19
        refine ⟨_, (hS.cel mp4 rfl), ?_⟩
        refine ⟨_, _, _, (hS.cel mp4 rfl), ?_⟩
        refine ⟨_, _, _, (hS.cel mp4 rfl), ?_⟩
        refine ⟨_, (hS.cel mp4 rfl), ?_⟩
        refine ⟨_, _, _, (hS.cel mp4 rfl), ?_⟩
        refine ⟨_, _, _, (hS.cel mp4 rfl), ?_⟩
        refine drM_s hS ?_; clear hS; intro w hS
        replace h := bnd h
        obtain ⟨t14, ht14, h⟩ := h
        refine wk_lower_Right H hS (e8.mono (incl_cons mp5 tl7)) (e14.mono (incl_cons mp6 tl7)) ht14 ?_; clear hS ht14; rintro w hS
        refine ⟨_, rfl, ?_⟩
        refine ⟨(hS.cel mp4 rfl), ?_⟩
        refine ⟨(hS.cel mp4 rfl), ?_⟩
        refine ⟨(hS.cel mp4 rfl), ?_⟩
        refine drM_s hS ?_; clear hS; intro w hS
        replace h := bnd h
        obtain ⟨t15, ht15, h⟩ := h
        refine wk_girderref12_Right H hS (e8.mono (incl_cons mp5 tl7)) (e14.mono (incl_cons mp6 tl7)) ht15 ?_; clear hS ht15; rintro w hS
        refine ⟨_, rfl, ?_⟩
        refine cond_s h ?_ ?_ <;> clear h <;> intro hc h
        · refine ⟨_, (hS.cel mp2 rfl), ?_⟩
          refine ⟨_, (hS.cel mp2 rfl), ?_⟩
          refine ⟨_, _, _, (hS.cel mp2 rfl), ?_⟩
          refine ⟨_, (hS.cel mp0 rfl), ?_⟩
          refine ⟨_, (hS.cel mp0 rfl), ?_⟩
          refine ⟨_, _, _, (hS.cel mp0 rfl), ?_⟩
          refine drM_s hS ?_; clear hS; intro w hS
          replace h := bnd h
          obtain ⟨t16, ht16, h⟩ := h
          refine wk_girderkit_SameMatrix H hS (Ent.sl mp3) (Ent.sl mp1) ht16 ?_; clear hS ht16; rintro w hS
          refine ⟨_, rfl, ?_⟩
          refine cond_s h ?_ ?_ <;> clear h <;> intro hc h
          · refine drM_s hS ?_; clear hS; intro w hS
            obtain rfl := some_inj h
            exact hJ19 _ _ ⟨_, rfl, rfl, (hS.pick (A := [_, _, _, _, _, _, _]) [4, 4, 4] rfl)⟩
          · refine drM_s hS ?_; clear hS; intro w hS
            obtain rfl := some_inj h
            exact hJ19 _ _ ⟨_, rfl, rfl, (hS.pick (A := [_, _, _, _, _, _, _]) [4, 4, 4] rfl)⟩
        · refine drM_s hS ?_; clear hS; intro w hS
          refine drM_s hS ?_; clear hS; intro w hS
          obtain rfl := some_inj h
          exact hJ19 _ _ ⟨_, rfl, rfl, (hS.pick (A := [_, _, _, _, _, _, _]) [4, 4, 4] rfl)⟩
      · clear h19 hS
        rintro s w ⟨t13, rfl, rfl, hS⟩
        have h := c19
        clear c19
        try dsimp only
        refine cond_s h ?_ ?_ <;> clear h <;> intro hc h
        · obtain rfl := some_inj h
          have h := congrArg some (hO _ rfl)
          obtain rfl := some_inj h
          have h := c2
          have h := some_inj h
          cases h
          exact hK _ (hS.pick (A := [_, _, _]) [] rfl)
        · replace h := bnd h
          obtain ⟨o20, h20, c20⟩ := h
          refine cutM_i (fun s w => ∃ (t17 : Int), t17 = o20 ∧ s = (t17, ()) ∧ Ho w0 w ((cl r1 [.int .i64 t2, .slice a3 m4 c5, .slice a9 m10 c11] N.t_Factor) :: it7 :: it13 :: L)) (fun J20 hJ20 => ?_) ?_
          · have h := h20
            clear h20
            refine iter_sim (fun s w t => ∃ (t18 : Int), t18 = t ∧ s = (t18, ()) ∧ Ho w0 w ((cl r1 [.int .i64 t2, .slice a3 m4 c5, .slice a9 m10 c11] N.t_Factor) :: it7 :: it13 :: L)) ?_ h ⟨_, rfl, rfl, hS⟩
            clear h hS
            rintro s w t X q ⟨t18, rfl, rfl, hS⟩ h hX hO
            unfold T_girderlaw12_LowerTimes_b9 at h
            try dsimp only
            refine cond_s h ?_ ?_ <;> clear h <;> intro hc h
            · refine ⟨_, _, _, (hS.cel mp0 rfl), ?_⟩
              replace h := bnd h
              obtain ⟨t19, ht19, h⟩ := h
              obtain rfl := lenF ht19 ((e14.mono (incl_cons mp2 tl3)).now (fun _ h => h) hS)
              clear ht19
              refine cond_s h ?_ ?_ <;> clear h <;> intro hc h
              · refine ⟨by decide, ?_⟩
                refine ⟨_, _, _, (hS.cel mp0 rfl), ?_⟩
                replace h := bnd h
                obtain ⟨t20, ht20, h⟩ := h
                obtain rfl := lenF ht20 ((e8.mono (incl_cons mp1 tl3)).now (fun _ h => h) hS)
                clear ht20
                refine cond_s h ?_ ?_ <;> clear h <;> intro hc h
                · obtain rfl := some_inj h
                  exact hX _ rfl _ _ ⟨_, rfl, rfl, hS⟩
                · obtain rfl := some_inj h
                  have h := congrArg some (hO _ rfl)
                  obtain rfl := some_inj h
                  exact hJ20 _ _ ⟨_, rfl, rfl, hS⟩
              · obtain rfl := some_inj h
                have h := congrArg some (hO _ rfl)
                obtain rfl := some_inj h
                exact hJ20 _ _ ⟨_, rfl, rfl, hS⟩
            · obtain rfl := some_inj h
              have h := congrArg some (hO _ rfl)
              obtain rfl := some_inj h
              exact hJ20 _ _ ⟨_, rfl, rfl, hS⟩
          · clear h20 hS
            rintro s w ⟨t17, rfl, rfl, hS⟩
            have h := c20
            clear c20
            try dsimp only
            refine ⟨_, _, _, (hS.cel mp0 rfl), ?_⟩
            refine ⟨by decide, ?_⟩
            replace h := bnd h
            obtain ⟨t21, ht21, h⟩ := h
            obtain ⟨rfl, q210, q211, q212⟩ := subF ht21
            clear ht21
            have q213 := ((e8.mono (incl_cons mp1 tl3)).now (fun _ h => h) hS).hiCap q212
            refine ⟨q211, q213, ?_⟩
            refine ⟨_, _, _, (hS.cel mp0 rfl), ?_⟩
            replace h := bnd h
            obtain ⟨t22, ht22, h⟩ := h
            obtain ⟨rfl, q220, q221, q222⟩ := subF ht22
            clear ht22
            have q223 := ((e14.mono (incl_cons mp2 tl3)).now (fun _ h => h) hS).hiCap q222
            refine ⟨q221, q223, ?_⟩
            refine drM_s hS ?_; clear hS; intro w hS
            refine stc_s hS rfl rfl ?_; clear hS; intro w hS
            refine stc_s hS rfl rfl ?_; clear hS; intro w hS
            refine stc_s hS rfl rfl ?_; clear hS; intro w hS
            refine drM_s hS ?_; clear hS; intro w hS
            obtain rfl := some_inj h
            exact hX _ rfl _ _ ⟨_, _, _, _, _, _, _, _, _, _, _, _, rfl, rfl, (Ent.upto e8 q211 q212), (Ent.upto e14 q221 q222), hS⟩
    · obtain rfl := some_inj h
      have h := congrArg some (hO _ rfl)
      obtain rfl := some_inj h
      exact hJ2 _ _ ⟨rfl, rfl, (hS.pick (A := [_, _, _]) [] rfl)⟩
  · clear h2 hS
    rintro s w ⟨rfl, rfl, hS⟩
    have h := c2
    clear c2
    try dsimp only
    replace h := bnd h
    obtain ⟨t23, ht23, h⟩ := h
    refine wk_girderlaw12_awake H hS  ht23 ?_; clear hS ht23; rintro w hS
    refine ⟨_, rfl, ?_⟩
    have h := some_inj h
    cases h
    exact hK _ hS

theorem wk_math_Copysign {N : Nums} {P : Program} (H : AllOk N P) {w0 w : World} {L : List It} {q0 : Nat} {q1 : Nat} {u0 : Nat} (hS : Ho w0 w (L))  (hx : T_math_Copysign (nf q0) (nf q1) = some u0) {K : Value → World → Prop} (hK : ∀ (z0 : Nat) (w1 : World), nf z0 = u0 → Ho w0 w1 (L) → K (.float .f64 z0) w1) : CallsX P N.f_math_Copysign #[.float .f64 q0, .float .f64 q1] w K := by
  unfold T_math_Copysign at hx
  have hn : isNaN q1 = false := by
    cases e : isNaN q1 with
    | false => rfl
    | true => rw [isNaN_nf, e] at hx; cases hx
  rw [isNaN_nf, hn, nf_of_not hn] at hx
  have hx := some_inj hx
  refine (copysign_c H q0 q1 w).mono ?_
  rintro _ w1 ⟨rfl, h1⟩
  exact hK _ _ ((nf_copy _ _).symm.trans hx) (hS.next h1)

theorem wk_math_NaN {N : Nums} {P : Program} (H : AllOk N P) {w0 w : World} {L : List It}  {u0 : Nat} (hS : Ho w0 w (L))  (hx : T_math_NaN  = some u0) {K : Value → World → Prop} (hK : ∀ (z0 : Nat) (w1 : World), nf z0 = u0 → Ho w0 w1 (L) → K (.float .f64 z0) w1) : CallsX P N.f_math_NaN #[] w K := by
  refine H.math_NaN  w _ ?_
  unfold S_math_NaN
  unfold T_math_NaN at hx
  have h := hx
  clear hx
  try dsimp only
  replace h := bnd h
  obtain ⟨t1, ht1, h⟩ := h
  refine wk_math_Float64frombits H hS  ht1 ?_; clear hS ht1; rintro z1 w rfl hS
  refine ⟨_, rfl, ?_⟩
  have h := some_inj h
  cases h
  exact hK _ _ rfl hS

theorem wk_math_Inf {N : Nums} {P : Program} (H : AllOk N P) {w0 w : World} {L : List It} {q0 : Int} {u0 : Nat} (hS : Ho w0 w (L))  (hx : T_math_Inf q0 = some u0) {K : Value → World → Prop} (hK : ∀ (z0 : Nat) (w1 : World), nf z0 = u0 → Ho w0 w1 (L) → K (.float .f64 z0) w1) : CallsX P N.f_math_Inf #[.int .i64 q0] w K := by
  refine H.math_Inf q0 w _ ?_
  unfold S_math_Inf
  unfold T_math_Inf at hx
  have h := hx
  clear hx
  try dsimp only
  replace h := bnd h
  obtain ⟨o1, h1, c1⟩ := h
  refine cutM_i (fun s w => ∃ (t1 : Int), t1 = o1 ∧ s = (t1, ()) ∧ Ho w0 w (L)) (fun J1 hJ1 => ?_) ?_
  · have h := h1
    clear h1
    refine cond_s h ?_ ?_ <;> clear h <;> intro hc h
    · obtain rfl := some_inj h
      exact hJ1 _ _ ⟨_, rfl, rfl, hS⟩
    · obtain rfl := some_inj h
      exact hJ1 _ _ ⟨_, rfl, rfl, hS⟩
  · clear h1 hS
    rintro s w ⟨t1, rfl, rfl, hS⟩
    have h := c1
    clear c1
    try dsimp only
    replace h := bnd h
    obtain ⟨t2, ht2, h⟩ := h
    refine wk_math_Float64frombits H hS  ht2 ?_; clear hS ht2; rintro z2 w rfl hS
    refine ⟨_, rfl, ?_⟩
    have h := some_inj h
    cases h
    exact hK _ _ rfl hS

end Go.Eng
