/-
  Each function comes to what its function of plain Lean says, printed by a program of the session; with contracts written by hand at the head. No condition.
-/
import Derived.Test.YtfbhhfgelebpnaaTp
import Derived.Test.YtfbhhfgelebpnaaSh
set_option linter.unusedSimpArgs false
set_option linter.unnecessarySimpa false
set_option linter.unusedSectionVars false
set_option linter.unusedVariables false
set_option maxRecDepth 100000
set_option maxHeartbeats 4000000
namespace Go.Eng
open Go

section
variable {N : Nums} {P : Program} (H : AllOk N P)
include H

theorem bits_c (x : Nat) (w : World) : CallsX P N.f_math_Float64bits #[.float .f64 x] w fun v w' => v = .int .u64 x ∧ St w w' [] :=
  H.math_Float64bits x w _ ⟨rfl, St.refl _⟩

theorem sameFloat_c (x y : Nat) (w : World) : CallsX P N.f_girderkit_SameFloat #[.float .f64 x, .float .f64 y] w fun v w' => v = .bool (nf x == nf y) ∧ St w w' [] := by
  refine H.girderkit_SameFloat x y w _ ?_
  unfold S_girderkit_SameFloat
  refine (bits_c H x w).mono ?_
  rintro _ w1 ⟨rfl, h1⟩
  refine ⟨_, rfl, ?_⟩
  refine (bits_c H y w1).mono ?_
  rintro _ w2 ⟨rfl, h2⟩
  refine ⟨_, rfl, ?_⟩
  have hS := h1.next h2
  have hxy : (((x : Nat) : Int) == ((y : Nat) : Int)) = (x == y) := by rw [Bool.eq_iff_iff]; simp; omega
  rw [same_bits, hxy, feq_self, feq_self]
  cases x == y <;> cases isNaN x <;> exact ⟨by simp, hS⟩

theorem copysign_c (x y : Nat) (w : World) : CallsX P N.f_math_Copysign #[.float .f64 x, .float .f64 y] w fun v w' => v = .float .f64 ((if negF y then 9223372036854775808 else 0) + magF x) ∧ St w w' [] := by
  refine H.math_Copysign x y w _ ?_
  unfold S_math_Copysign
  refine (bits_c H x w).mono ?_
  rintro _ w1 ⟨rfl, h1⟩
  refine ⟨_, rfl, ?_⟩
  refine (bits_c H y w1).mono ?_
  rintro _ w2 ⟨rfl, h2⟩
  refine ⟨_, rfl, ?_⟩
  refine H.math_Float64frombits _ w2 _ ?_
  rw [copy_bits]
  exact ⟨_, rfl, rfl, h1.next h2⟩

theorem abs_c (x : Nat) (w : World) : CallsX P N.f_math_Abs #[.float .f64 x] w fun v w' => v = .float .f64 (magF x) ∧ St w w' [] := by
  refine H.math_Abs x w _ ?_
  unfold S_math_Abs
  refine (bits_c H x w).mono ?_
  rintro _ w1 ⟨rfl, h1⟩
  refine ⟨_, rfl, ?_⟩
  refine H.math_Float64frombits _ w1 _ ?_
  rw [abs_bits]
  exact ⟨_, rfl, rfl, h1⟩

theorem signbit_c (x : Nat) (w : World) : CallsX P N.f_math_Signbit #[.float .f64 x] w fun v w' => v = .bool (negF x) ∧ St w w' [] := by
  refine H.math_Signbit x w _ ?_
  unfold S_math_Signbit
  refine (bits_c H x w).mono ?_
  rintro _ w1 ⟨rfl, h1⟩
  exact ⟨_, rfl, by rw [sign_bits], h1⟩

theorem isNaN_c (x : Nat) (w : World) : CallsX P N.f_math_IsNaN #[.float .f64 x] w fun v w' => v = .bool (isNaN x) ∧ St w w' [] := by
  refine H.math_IsNaN x w _ ?_
  refine ⟨?_, St.refl w⟩
  rw [feq_self]; simp

theorem vsame_c {w : World} {a b : Option Addr} {n c m d : Nat} {l k : List Nat} (ha : Reals w a n c l) (hb : Reals w b m d k) (hn : n ≤ 4294967296) :
    CallsX P N.f_vector_Same #[.slice a n c, .slice b m d] w fun v w' => v = .bool (l.map nf == k.map nf) ∧ St w w' [] := by
  refine H.vector_Same a n c b m d w _ ?_
  unfold S_vector_Same
  have la := ha.len
  have lb := hb.len
  refine cond_i (fun h => ?_) (fun h => ?_)
  · refine ⟨?_, St.refl _⟩
    congr 1
    have h' : n ≠ m := by simp at h; omega
    simp only [Bool.false_eq, beq_eq_false_iff_ne, ne_eq]
    intro e
    have := congrArg List.length e
    simp at this; omega
  · have hnm : n = m := by simp at h; omega
    subst hnm
    refine cutM_i (fun s w' => l.map nf = k.map nf ∧ St w w' []) (fun J hJ => ?_) (fun s w' ⟨h, hS⟩ => ⟨by simp [h], hS⟩)
    refine loopM_i (fun s w' => ∃ i : Nat, s.1 = (i : Int) ∧ i ≤ n ∧ (∀ j, j < i → nf (l.getD j 0) = nf (k.getD j 0)) ∧ St w w' []) (fun s => n - s.1.toNat) ⟨0, rfl, by omega, fun j h => by omega, St.refl w⟩ ?_
    rintro ⟨s, u⟩ w X ⟨i, hi, hin, hall, hS⟩ hX
    dsimp only at hi; subst hi
    refine cond_i (fun hb1 => ?_) (fun hb1 => ?_)
    · have hlt : i < n := by simpa using hb1
      have hadv : nf (l.getD i 0) = nf (k.getD i 0) → ∀ w', St _ w' [] → X (IntKind.i64.wrap ((i : Int) + 1), u) w' := fun he w' hS' => by
        refine hX _ _ ⟨i + 1, wrS hlt (by omega), by omega, fun j hj => ?_, hS'⟩ (by dsimp only; rw [wrS hlt (by omega)]; omega)
        by_cases e : j = i
        · subst e; exact he
        · exact hall j (by omega)
      have hbad : nf (l.getD i 0) ≠ nf (k.getD i 0) → (Value.bool false) = Value.bool (l.map nf == k.map nf) := fun he => by
        congr 1
        simp only [Bool.false_eq, beq_eq_false_iff_ne, ne_eq]
        intro e
        apply he
        have := congrArg (fun q => q.getD i 0) e
        simpa [List.getD_eq_getElem?_getD, show i < l.length by omega, show i < k.length by omega] using this
      obtain ⟨xa, rfl, hxa⟩ := ha.at_ i (by omega)
      obtain ⟨xb, rfl, hxb⟩ := hb.at_ i (by omega)
      dsimp only
      rw [Int.toNat_natCast, Nat.mul_one]
      refine ⟨by omega, by omega, optM_mk rfl ⟨_, hS.cell hxa, by omega, by omega, optM_mk rfl ⟨_, hS.cell hxb, ?_⟩⟩⟩
      (try simp only [List.cons_append, List.nil_append, List.append_assoc] at hS); (repeat (first | (with_reducible (refine ⟨_, hS.cell ‹_›, ?_⟩)) | (with_reducible (refine ⟨_, _, _, hS.cell ‹_›, ?_⟩)) | (with_reducible (refine ⟨hS.cell ‹_›, ?_⟩)) | ((with_reducible first | apply ldI hS | apply ldS hS | apply hldS hS | apply hldI hS | apply ldF hS | apply ldP hS | apply ldB hS | apply hldF hS); (case ha => exact rfl); (case he => (repeat (first | with_reducible exact List.mem_cons_self | with_reducible refine List.mem_cons_of_mem _ ?_))); (case hc => exact rfl)) | (guard_target = newM _ _ _ _; refine newM_i hS ?_; clear hS; intro _ w hS) | (guard_target = drM _ _; refine drM_i hS ?_; clear hS; intro w hS) | (guard_target = stM _ _ _ _; (first | refine st0 hS rfl rfl ?_ | refine st1 hS rfl rfl ?_ | refine st2 hS rfl rfl ?_ | refine st3 hS rfl rfl ?_ | refine st4 hS rfl rfl ?_ | refine st5 hS rfl rfl ?_ | refine st6 hS rfl rfl ?_ | refine st7 hS rfl rfl ?_); clear hS; intro w hS) | (guard_target = optM (some _) _; refine optM_mk rfl ?_)))
      refine (bits_c H _ _).mono ?_
      rintro _ w1 ⟨rfl, h1⟩
      replace hS := hS.next h1
      rw [List.nil_append] at hS
      refine ⟨_, rfl, hS.cell hxb, ?_⟩
      (try simp only [List.cons_append, List.nil_append, List.append_assoc] at hS); (repeat (first | (with_reducible (refine ⟨_, hS.cell ‹_›, ?_⟩)) | (with_reducible (refine ⟨_, _, _, hS.cell ‹_›, ?_⟩)) | (with_reducible (refine ⟨hS.cell ‹_›, ?_⟩)) | ((with_reducible first | apply ldI hS | apply ldS hS | apply hldS hS | apply hldI hS | apply ldF hS | apply ldP hS | apply ldB hS | apply hldF hS); (case ha => exact rfl); (case he => (repeat (first | with_reducible exact List.mem_cons_self | with_reducible refine List.mem_cons_of_mem _ ?_))); (case hc => exact rfl)) | (guard_target = newM _ _ _ _; refine newM_i hS ?_; clear hS; intro _ w hS) | (guard_target = drM _ _; refine drM_i hS ?_; clear hS; intro w hS) | (guard_target = stM _ _ _ _; (first | refine st0 hS rfl rfl ?_ | refine st1 hS rfl rfl ?_ | refine st2 hS rfl rfl ?_ | refine st3 hS rfl rfl ?_ | refine st4 hS rfl rfl ?_ | refine st5 hS rfl rfl ?_ | refine st6 hS rfl rfl ?_ | refine st7 hS rfl rfl ?_); clear hS; intro w hS) | (guard_target = optM (some _) _; refine optM_mk rfl ?_)))
      refine (bits_c H _ _).mono ?_
      rintro _ w2 ⟨rfl, h2⟩
      replace hS := hS.next h2
      rw [List.nil_append] at hS
      refine ⟨_, rfl, cond_i (fun hb2 => ?_) (fun hb2 => ?_)⟩
      · have hne : l.getD i 0 ≠ k.getD i 0 := fun e => by rw [e] at hb2; simp at hb2
        (try simp only [List.cons_append, List.nil_append, List.append_assoc] at hS); (repeat (first | (with_reducible (refine ⟨_, hS.cell ‹_›, ?_⟩)) | (with_reducible (refine ⟨_, _, _, hS.cell ‹_›, ?_⟩)) | (with_reducible (refine ⟨hS.cell ‹_›, ?_⟩)) | ((with_reducible first | apply ldI hS | apply ldS hS | apply hldS hS | apply hldI hS | apply ldF hS | apply ldP hS | apply ldB hS | apply hldF hS); (case ha => exact rfl); (case he => (repeat (first | with_reducible exact List.mem_cons_self | with_reducible refine List.mem_cons_of_mem _ ?_))); (case hc => exact rfl)) | (guard_target = newM _ _ _ _; refine newM_i hS ?_; clear hS; intro _ w hS) | (guard_target = drM _ _; refine drM_i hS ?_; clear hS; intro w hS) | (guard_target = stM _ _ _ _; (first | refine st0 hS rfl rfl ?_ | refine st1 hS rfl rfl ?_ | refine st2 hS rfl rfl ?_ | refine st3 hS rfl rfl ?_ | refine st4 hS rfl rfl ?_ | refine st5 hS rfl rfl ?_ | refine st6 hS rfl rfl ?_ | refine st7 hS rfl rfl ?_); clear hS; intro w hS) | (guard_target = optM (some _) _; refine optM_mk rfl ?_)))
        refine (isNaN_c H _ _).mono ?_
        rintro _ w3 ⟨rfl, h3⟩
        replace hS := hS.next h3
        rw [List.nil_append] at hS
        refine ⟨_, rfl, cond_i (fun hn1 => ?_) (fun hn1 => ?_)⟩
        · refine ⟨by omega, by omega, optM_mk rfl ⟨_, hS.cell hxb, ?_⟩⟩
          (try simp only [List.cons_append, List.nil_append, List.append_assoc] at hS); (repeat (first | (with_reducible (refine ⟨_, hS.cell ‹_›, ?_⟩)) | (with_reducible (refine ⟨_, _, _, hS.cell ‹_›, ?_⟩)) | (with_reducible (refine ⟨hS.cell ‹_›, ?_⟩)) | ((with_reducible first | apply ldI hS | apply ldS hS | apply hldS hS | apply hldI hS | apply ldF hS | apply ldP hS | apply ldB hS | apply hldF hS); (case ha => exact rfl); (case he => (repeat (first | with_reducible exact List.mem_cons_self | with_reducible refine List.mem_cons_of_mem _ ?_))); (case hc => exact rfl)) | (guard_target = newM _ _ _ _; refine newM_i hS ?_; clear hS; intro _ w hS) | (guard_target = drM _ _; refine drM_i hS ?_; clear hS; intro w hS) | (guard_target = stM _ _ _ _; (first | refine st0 hS rfl rfl ?_ | refine st1 hS rfl rfl ?_ | refine st2 hS rfl rfl ?_ | refine st3 hS rfl rfl ?_ | refine st4 hS rfl rfl ?_ | refine st5 hS rfl rfl ?_ | refine st6 hS rfl rfl ?_ | refine st7 hS rfl rfl ?_); clear hS; intro w hS) | (guard_target = optM (some _) _; refine optM_mk rfl ?_)))
          refine (isNaN_c H _ _).mono ?_
          rintro _ w4 ⟨rfl, h4⟩
          replace hS := hS.next h4
          rw [List.nil_append] at hS
          refine ⟨_, rfl, ?_⟩
          (try simp only [List.cons_append, List.nil_append, List.append_assoc] at hS); (repeat (first | (with_reducible (refine ⟨_, hS.cell ‹_›, ?_⟩)) | (with_reducible (refine ⟨_, _, _, hS.cell ‹_›, ?_⟩)) | (with_reducible (refine ⟨hS.cell ‹_›, ?_⟩)) | ((with_reducible first | apply ldI hS | apply ldS hS | apply hldS hS | apply hldI hS | apply ldF hS | apply ldP hS | apply ldB hS | apply hldF hS); (case ha => exact rfl); (case he => (repeat (first | with_reducible exact List.mem_cons_self | with_reducible refine List.mem_cons_of_mem _ ?_))); (case hc => exact rfl)) | (guard_target = newM _ _ _ _; refine newM_i hS ?_; clear hS; intro _ w hS) | (guard_target = drM _ _; refine drM_i hS ?_; clear hS; intro w hS) | (guard_target = stM _ _ _ _; (first | refine st0 hS rfl rfl ?_ | refine st1 hS rfl rfl ?_ | refine st2 hS rfl rfl ?_ | refine st3 hS rfl rfl ?_ | refine st4 hS rfl rfl ?_ | refine st5 hS rfl rfl ?_ | refine st6 hS rfl rfl ?_ | refine st7 hS rfl rfl ?_); clear hS; intro w hS) | (guard_target = optM (some _) _; refine optM_mk rfl ?_)))
          refine cond_i (fun hn2 => ?_) (fun hn2 => ?_)
          · simp only [Bool.not_eq_true'] at hn2
            exact ⟨hbad (fun e => by rcases nf_eq_iff.1 e with e | ⟨_, e⟩; exact hne e; rw [e] at hn2; cases hn2), hS⟩
          · simp only [Bool.not_eq_false'] at hn2
            exact hadv (nf_eq_iff.2 (.inr ⟨hn1, hn2⟩)) _ hS
        · (try simp only [List.cons_append, List.nil_append, List.append_assoc] at hS); (repeat (first | (with_reducible (refine ⟨_, hS.cell ‹_›, ?_⟩)) | (with_reducible (refine ⟨_, _, _, hS.cell ‹_›, ?_⟩)) | (with_reducible (refine ⟨hS.cell ‹_›, ?_⟩)) | ((with_reducible first | apply ldI hS | apply ldS hS | apply hldS hS | apply hldI hS | apply ldF hS | apply ldP hS | apply ldB hS | apply hldF hS); (case ha => exact rfl); (case he => (repeat (first | with_reducible exact List.mem_cons_self | with_reducible refine List.mem_cons_of_mem _ ?_))); (case hc => exact rfl)) | (guard_target = newM _ _ _ _; refine newM_i hS ?_; clear hS; intro _ w hS) | (guard_target = drM _ _; refine drM_i hS ?_; clear hS; intro w hS) | (guard_target = stM _ _ _ _; (first | refine st0 hS rfl rfl ?_ | refine st1 hS rfl rfl ?_ | refine st2 hS rfl rfl ?_ | refine st3 hS rfl rfl ?_ | refine st4 hS rfl rfl ?_ | refine st5 hS rfl rfl ?_ | refine st6 hS rfl rfl ?_ | refine st7 hS rfl rfl ?_); clear hS; intro w hS) | (guard_target = optM (some _) _; refine optM_mk rfl ?_)))
          exact ⟨hbad (fun e => by rcases nf_eq_iff.1 e with e | ⟨e, _⟩; exact hne e; rw [e] at hn1; cases hn1), hS⟩
      · have he : l.getD i 0 = k.getD i 0 := by
          have h5 : (((l.getD i 0 : Nat) : Int) != ((k.getD i 0 : Nat) : Int)) = false := hb2
          have h6 : ((l.getD i 0 : Nat) : Int) = ((k.getD i 0 : Nat) : Int) := by
            rcases Decidable.em (((l.getD i 0 : Nat) : Int) = ((k.getD i 0 : Nat) : Int)) with h | h
            · exact h
            · rw [bne_iff_ne.2 h] at h5; cases h5
          exact Int.ofNat.inj h6
        (try simp only [List.cons_append, List.nil_append, List.append_assoc] at hS); (repeat (first | (with_reducible (refine ⟨_, hS.cell ‹_›, ?_⟩)) | (with_reducible (refine ⟨_, _, _, hS.cell ‹_›, ?_⟩)) | (with_reducible (refine ⟨hS.cell ‹_›, ?_⟩)) | ((with_reducible first | apply ldI hS | apply ldS hS | apply hldS hS | apply hldI hS | apply ldF hS | apply ldP hS | apply ldB hS | apply hldF hS); (case ha => exact rfl); (case he => (repeat (first | with_reducible exact List.mem_cons_self | with_reducible refine List.mem_cons_of_mem _ ?_))); (case hc => exact rfl)) | (guard_target = newM _ _ _ _; refine newM_i hS ?_; clear hS; intro _ w hS) | (guard_target = drM _ _; refine drM_i hS ?_; clear hS; intro w hS) | (guard_target = stM _ _ _ _; (first | refine st0 hS rfl rfl ?_ | refine st1 hS rfl rfl ?_ | refine st2 hS rfl rfl ?_ | refine st3 hS rfl rfl ?_ | refine st4 hS rfl rfl ?_ | refine st5 hS rfl rfl ?_ | refine st6 hS rfl rfl ?_ | refine st7 hS rfl rfl ?_); clear hS; intro w hS) | (guard_target = optM (some _) _; refine optM_mk rfl ?_)))
        exact hadv (by rw [he]) _ hS
    · have hge : n ≤ i := by simpa using hb1
      refine hJ _ _ ⟨?_, hS⟩
      apply List.ext_getElem
      · simp; omega
      · intro j h1 h2
        simp at h1 h2
        have := hall j (by omega)
        simpa [List.getD_eq_getElem?_getD, h1, h2] using this

end

theorem wk_matrix_fits {N : Nums} {P : Program} (H : AllOk N P) {w0 w : World} {L : List It} {q0 : Int} {u0 : Bool} (hS : Ho w0 w L)  (hx : T_matrix_fits q0 = some u0) {K : Value → World → Prop} (hK : ∀  (w1 : World), Ho w0 w1 (L) → K (.bool u0) w1) : CallsX P N.f_matrix_fits #[.int .i64 q0] w K := by
  refine H.matrix_fits q0 w _ ?_
  unfold S_matrix_fits
  unfold T_matrix_fits at hx
  have h := hx
  clear hx
  try dsimp only
  refine cond_s h ?_ ?_ <;> clear h <;> intro hc h
  · have h := some_inj h
    cases h
    exact hK _ hS
  · have h := some_inj h
    cases h
    exact hK _ hS

theorem wk_matrix_laid {N : Nums} {P : Program} (H : AllOk N P) {w0 w : World} {L : List It} {q0 : Int} {q1 : Int} {q2 : Value} {f2 : Int → Int → Option Nat} {u0 : Int} {u1 : Int} {u2 : List Nat} (hS : Ho w0 w L) (hf2 : ∀ (v0 : Int) (v1 : Int) (w : World) (L1 : List It) (r1 : Nat) (K : Value → World → Prop), (∀ e, e ∈ L → e ∈ L1) → f2 v0 v1 = some r1 → Ho w0 w L1 → (∀ (z : Nat) (w1 : World), nf z = r1 → Ho w0 w1 L1 → K (.float .f64 z) w1) → fnM q2 fun g gp gq => CallsX P g (gp.toList ++ (([.int .i64 v0, .int .i64 v1] : List Value) ++ gq.toList)).toArray w K) (hx : T_matrix_laid q0 q1 f2 = some (u0, u1, u2)) {K : Value → World → Prop} (hK : ∀ (a2 : Option Addr) (n2 c2 : Nat) (rws2 : List Nat) (w1 : World), List.map nf rws2 = u2 → Ho w0 w1 ((sl a2 n2 c2 (List.map (Value.float .f64) rws2) N.t_float64) :: L) → K (.agg #[.int .i64 u0, .int .i64 u1, .slice a2 n2 c2]) w1) : CallsX P N.f_matrix_laid #[.int .i64 q0, .int .i64 q1, q2] w K := by
  refine H.matrix_laid q0 q1 q2 w _ ?_
  unfold S_matrix_laid
  unfold T_matrix_laid at hx
  have h := hx
  clear hx
  try dsimp only
  refine newM_s hS ?_; clear hS; intro r1 w hS
  replace h := bnd h
  obtain ⟨t1, ht1, h⟩ := h
  obtain ⟨rfl, kt1⟩ := mkF ht1
  clear ht1
  refine mk_s (enc := (Value.float .f64)) hS kt1 rfl ?_; clear hS kt1; intro r2 w hS
  refine newM_s hS ?_; clear hS; intro r3 w hS
  refine stc_s hS rfl rfl ?_; clear hS; intro w hS
  refine stc_s hS rfl rfl ?_; clear hS; intro w hS
  refine stc_s hS rfl rfl ?_; clear hS; intro w hS
  replace h := bnd h
  obtain ⟨o5, h5, c5⟩ := h
  refine cutM_i (fun s w => ∃ (ws4 : List Nat), (List.map nf ws4) = o5 ∧ s = (()) ∧ Ho w0 w ((cl r3 [.int .i64 q0, .int .i64 q1, .slice (some ⟨r2, 0, none⟩) (((IntKind.i64.wrap (q0 * q1))).toNat) (((IntKind.i64.wrap (q0 * q1))).toNat)] N.t_Matrix) :: (sl (some ⟨r2, 0, none⟩) (((IntKind.i64.wrap (q0 * q1))).toNat) (((IntKind.i64.wrap (q0 * q1))).toNat) (List.map (Value.float .f64) ws4) N.t_float64) :: (cl r1 [.int .i64 0, .int .i64 0, .slice none 0 0] N.t_Matrix) :: L)) (fun J5 hJ5 => ?_) ?_
  · have h := h5
    clear h5
    refine iter_sim (fun s w t => ∃ (t3 : Int) (ws6 : List Nat), (t3, (List.map nf ws6)) = t ∧ s = (t3, ()) ∧ Ho w0 w ((cl r3 [.int .i64 q0, .int .i64 q1, .slice (some ⟨r2, 0, none⟩) (((IntKind.i64.wrap (q0 * q1))).toNat) (((IntKind.i64.wrap (q0 * q1))).toNat)] N.t_Matrix) :: (sl (some ⟨r2, 0, none⟩) (((IntKind.i64.wrap (q0 * q1))).toNat) (((IntKind.i64.wrap (q0 * q1))).toNat) (List.map (Value.float .f64) ws6) N.t_float64) :: (cl r1 [.int .i64 0, .int .i64 0, .slice none 0 0] N.t_Matrix) :: L)) ?_ h ⟨_, _, rfl, rfl, hS⟩
    clear h hS
    rintro s w t X q ⟨t3, ws6, rfl, rfl, hS⟩ h hX hO
    unfold T_matrix_laid_b7 at h
    try dsimp only
    refine cond_s h ?_ ?_ <;> clear h <;> intro hc h
    · replace h := bnd h
      obtain ⟨o8, h8, c8⟩ := h
      refine cutM_i (fun s w => ∃ (ws7 : List Nat), (List.map nf ws7) = o8 ∧ s = (()) ∧ Ho w0 w ((cl r3 [.int .i64 q0, .int .i64 q1, .slice (some ⟨r2, 0, none⟩) (((IntKind.i64.wrap (q0 * q1))).toNat) (((IntKind.i64.wrap (q0 * q1))).toNat)] N.t_Matrix) :: (sl (some ⟨r2, 0, none⟩) (((IntKind.i64.wrap (q0 * q1))).toNat) (((IntKind.i64.wrap (q0 * q1))).toNat) (List.map (Value.float .f64) ws7) N.t_float64) :: (cl r1 [.int .i64 0, .int .i64 0, .slice none 0 0] N.t_Matrix) :: L)) (fun J8 hJ8 => ?_) ?_
      · have h := h8
        clear h8
        refine iter_sim (fun s w t => ∃ (t6 : Int) (ws9 : List Nat), (t6, (List.map nf ws9)) = t ∧ s = (t6, ()) ∧ Ho w0 w ((cl r3 [.int .i64 q0, .int .i64 q1, .slice (some ⟨r2, 0, none⟩) (((IntKind.i64.wrap (q0 * q1))).toNat) (((IntKind.i64.wrap (q0 * q1))).toNat)] N.t_Matrix) :: (sl (some ⟨r2, 0, none⟩) (((IntKind.i64.wrap (q0 * q1))).toNat) (((IntKind.i64.wrap (q0 * q1))).toNat) (List.map (Value.float .f64) ws9) N.t_float64) :: (cl r1 [.int .i64 0, .int .i64 0, .slice none 0 0] N.t_Matrix) :: L)) ?_ h ⟨_, _, rfl, rfl, hS⟩
        clear h hS
        rintro s w t X q ⟨t6, ws9, rfl, rfl, hS⟩ h hX hO
        unfold T_matrix_laid_b9 at h
        try dsimp only
        refine cond_s h ?_ ?_ <;> clear h <;> intro hc h
        · refine ⟨_, _, _, (hS.cel mp0 rfl), ?_⟩
          refine drM_s hS ?_; clear hS; intro w hS
          replace h := bnd h
          obtain ⟨t8, ht8, h⟩ := h
          refine hf2 _ _ _ _ _ _ tl3 ht8 hS ?_; clear hS ht8; rintro z10 w rfl hS
          refine ⟨_, rfl, ?_⟩
          refine ⟨(hS.cel mp0 rfl), ?_⟩
          replace h := bnd h
          obtain ⟨t9, ht9, h⟩ := h
          obtain ⟨z11, rfl, q12x, q12l, q12r⟩ := atF ht9
          clear ht9
          refine idx_s ((Ent.sl mp1).now (fun _ h => h) hS) q12x q12l q12r ?_; intro b13 hb13
          refine drM_s hS ?_; clear hS; intro w hS
          replace hS := ro1 hS
          replace h := bnd h
          obtain ⟨t10, ht10, h⟩ := h
          obtain rfl := setF ht10
          clear ht10
          refine sto_s hS hb13 q12r ?_; clear hS; intro w hS
          refine drM_s hS ?_; clear hS; intro w hS
          obtain rfl := some_inj h
          exact hX _ rfl _ _ ⟨_, _, rfl, rfl, (hS.pick (A := [_, _, _]) [1, 0, 0] rfl)⟩
        · obtain rfl := some_inj h
          have h := congrArg some (hO _ rfl)
          obtain rfl := some_inj h
          exact hJ8 _ _ ⟨_, rfl, rfl, hS⟩
      · clear h8 hS
        rintro s w ⟨ws7, rfl, rfl, hS⟩
        have h := c8
        clear c8
        try dsimp only
        obtain rfl := some_inj h
        exact hX _ rfl _ _ ⟨_, _, rfl, rfl, hS⟩
    · obtain rfl := some_inj h
      have h := congrArg some (hO _ rfl)
      obtain rfl := some_inj h
      exact hJ5 _ _ ⟨_, rfl, rfl, hS⟩
  · clear h5 hS
    rintro s w ⟨ws4, rfl, rfl, hS⟩
    have h := c5
    clear c5
    try dsimp only
    refine ⟨_, (hS.cel mp0 rfl), ?_⟩
    refine ⟨_, (hS.cel mp0 rfl), ?_⟩
    refine ⟨_, _, _, (hS.cel mp0 rfl), ?_⟩
    replace hS := ro2 hS
    refine stc_s hS rfl rfl ?_; clear hS; intro w hS
    refine stc_s hS rfl rfl ?_; clear hS; intro w hS
    refine stc_s hS rfl rfl ?_; clear hS; intro w hS
    refine ⟨_, (hS.cel mp0 rfl), ?_⟩
    refine ⟨_, (hS.cel mp0 rfl), ?_⟩
    refine ⟨_, _, _, (hS.cel mp0 rfl), ?_⟩
    have h := some_inj h
    cases h
    exact hK _ _ _ _ _ rfl (hS.pick (A := [_, _, _]) [2] rfl)

theorem wk_matrix_Make_1 {N : Nums} {P : Program} (H : AllOk N P) {w0 w : World} {L : List It} {q0 : Int} {q1 : Int} {u0 : Nat} (hS : Ho w0 w L)  (hx : T_matrix_Make_1 q0 q1 = some u0) {K : Value → World → Prop} (hK : ∀ (z0 : Nat) (w1 : World), nf z0 = u0 → Ho w0 w1 (L) → K (.float .f64 z0) w1) : CallsX P N.f_matrix_Make_1 #[.int .i64 q0, .int .i64 q1] w K := by
  refine H.matrix_Make_1 q0 q1 w _ ?_
  unfold S_matrix_Make_1
  unfold T_matrix_Make_1 at hx
  have h := hx
  clear hx
  try dsimp only
  have h := some_inj h
  cases h
  exact hK _ _ rfl hS

theorem wk_matrix_Make {N : Nums} {P : Program} (H : AllOk N P) {w0 w : World} {L : List It} {q0 : Int} {q1 : Int} {u0 : Int} {u1 : Int} {u2 : List Nat} {u3 : Int} (hS : Ho w0 w L)  (hx : T_matrix_Make q0 q1 = some (u0, u1, u2, u3)) {K : Value → World → Prop} (hK : ∀ (a2 : Option Addr) (n2 c2 : Nat) (rws2 : List Nat) (w1 : World), List.map nf rws2 = u2 → Ho w0 w1 ((sl a2 n2 c2 (List.map (Value.float .f64) rws2) N.t_float64) :: L) → K (.tuple #[.agg #[.int .i64 u0, .int .i64 u1, .slice a2 n2 c2], .int .i64 u3]) w1) : CallsX P N.f_matrix_Make #[.int .i64 q0, .int .i64 q1] w K := by
  refine H.matrix_Make q0 q1 w _ ?_
  unfold S_matrix_Make
  unfold T_matrix_Make at hx
  have h := hx
  clear hx
  try dsimp only
  refine newM_s hS ?_; clear hS; intro r1 w hS
  replace h := bnd h
  obtain ⟨t1, ht1, h⟩ := h
  refine wk_matrix_fits H hS  ht1 ?_; clear hS ht1; rintro w hS
  refine ⟨_, rfl, ?_⟩
  refine cond_s h ?_ ?_ <;> clear h <;> intro hc h
  · replace h := bnd h
    obtain ⟨t2, ht2, h⟩ := h
    refine wk_matrix_fits H hS  ht2 ?_; clear hS ht2; rintro w hS
    refine ⟨_, rfl, ?_⟩
    refine cond_s h ?_ ?_ <;> clear h <;> intro hc h
    · refine stc_s hS rfl rfl ?_; clear hS; intro w hS
      refine stc_s hS rfl rfl ?_; clear hS; intro w hS
      refine stc_s hS rfl rfl ?_; clear hS; intro w hS
      refine ⟨_, (hS.cel mp0 rfl), ?_⟩
      refine ⟨_, (hS.cel mp0 rfl), ?_⟩
      refine ⟨_, _, _, (hS.cel mp0 rfl), ?_⟩
      replace hS := hS.none (α := Nat) (enc := (Value.float .f64)) (t := N.t_float64)
      have h := some_inj h
      cases h
      exact hK _ _ _ _ _ rfl (hS.pick (A := [_, _]) [0] rfl)
    · replace h := bnd h
      obtain ⟨⟨t3, t4, t5⟩, ho3, h⟩ := h
      refine wk_matrix_laid H hS (by intro v0 v1 w L1 r1 K hL hx hS hK; exact wk_matrix_Make_1 H hS  hx hK) ho3 ?_; clear hS ho3; rintro a2 m2 c2 ws2 w rfl hS
      refine ⟨_, _, _, _, _, rfl, ?_⟩
      replace hS := ro1 hS
      refine stc_s hS rfl rfl ?_; clear hS; intro w hS
      refine stc_s hS rfl rfl ?_; clear hS; intro w hS
      refine stc_s hS rfl rfl ?_; clear hS; intro w hS
      refine ⟨_, (hS.cel mp0 rfl), ?_⟩
      refine ⟨_, (hS.cel mp0 rfl), ?_⟩
      refine ⟨_, _, _, (hS.cel mp0 rfl), ?_⟩
      have h := some_inj h
      cases h
      exact hK _ _ _ _ _ rfl (hS.pick (A := [_, _]) [1] rfl)
  · refine stc_s hS rfl rfl ?_; clear hS; intro w hS
    refine stc_s hS rfl rfl ?_; clear hS; intro w hS
    refine stc_s hS rfl rfl ?_; clear hS; intro w hS
    refine ⟨_, (hS.cel mp0 rfl), ?_⟩
    refine ⟨_, (hS.cel mp0 rfl), ?_⟩
    refine ⟨_, _, _, (hS.cel mp0 rfl), ?_⟩
    replace hS := hS.none (α := Nat) (enc := (Value.float .f64)) (t := N.t_float64)
    have h := some_inj h
    cases h
    exact hK _ _ _ _ _ rfl (hS.pick (A := [_, _]) [0] rfl)

theorem wk_matrix_Identity {N : Nums} {P : Program} (H : AllOk N P) {w0 w : World} {L : List It} {q0 : Int} {u0 : Int} {u1 : Int} {u2 : List Nat} {u3 : Int} (hS : Ho w0 w L)  (hx : T_matrix_Identity q0 = some (u0, u1, u2, u3)) {K : Value → World → Prop} (hK : ∀ (a2 : Option Addr) (n2 c2 : Nat) (rws2 : List Nat) (w1 : World), List.map nf rws2 = u2 → Ho w0 w1 ((sl a2 n2 c2 (List.map (Value.float .f64) rws2) N.t_float64) :: L) → K (.tuple #[.agg #[.int .i64 u0, .int .i64 u1, .slice a2 n2 c2], .int .i64 u3]) w1) : CallsX P N.f_matrix_Identity #[.int .i64 q0] w K := by
  refine H.matrix_Identity q0 w _ ?_
  unfold S_matrix_Identity
  unfold T_matrix_Identity at hx
  have h := hx
  clear hx
  try dsimp only
  refine newM_s hS ?_; clear hS; intro r1 w hS
  replace h := bnd h
  obtain ⟨⟨t1, t2, t3, t4⟩, ho1, h⟩ := h
  refine wk_matrix_Make H hS  ho1 ?_; clear hS ho1; rintro a2 m2 c2 ws2 w rfl hS
  refine ⟨_, _, _, _, _, _, rfl, ?_⟩
  refine newM_s hS ?_; clear hS; intro r3 w hS
  refine stc_s hS rfl rfl ?_; clear hS; intro w hS
  refine stc_s hS rfl rfl ?_; clear hS; intro w hS
  refine stc_s hS rfl rfl ?_; clear hS; intro w hS
  refine ⟨_, (hS.cel mp0 rfl), ?_⟩
  replace h := bnd h
  obtain ⟨o5, h5, c5⟩ := h
  refine cutM_i (fun s w => ∃ (ws4 : List Nat), (List.map nf ws4) = o5 ∧ s = (()) ∧ Ho w0 w ((cl r3 [.int .i64 t1, .int .i64 t2, .slice a2 m2 c2] N.t_Matrix) :: (sl a2 m2 c2 (List.map (Value.float .f64) ws4) N.t_float64) :: (cl r1 [.int .i64 0, .int .i64 0, .slice none 0 0] N.t_Matrix) :: L)) (fun J5 hJ5 => ?_) ?_
  · have h := h5
    clear h5
    refine iter_sim (fun s w t => ∃ (t6 : Int) (ws6 : List Nat), (t6, (List.map nf ws6)) = t ∧ s = (t6, ()) ∧ Ho w0 w ((cl r3 [.int .i64 t1, .int .i64 t2, .slice a2 m2 c2] N.t_Matrix) :: (sl a2 m2 c2 (List.map (Value.float .f64) ws6) N.t_float64) :: (cl r1 [.int .i64 0, .int .i64 0, .slice none 0 0] N.t_Matrix) :: L)) ?_ h ⟨_, _, rfl, rfl, hS⟩
    clear h hS
    rintro s w t X q ⟨t6, ws6, rfl, rfl, hS⟩ h hX hO
    unfold T_matrix_Identity_b2 at h
    try dsimp only
    refine cond_s h ?_ ?_ <;> clear h <;> intro hc h
    · refine ⟨_, _, _, (hS.cel mp0 rfl), ?_⟩
      replace h := bnd h
      obtain ⟨t8, ht8, h⟩ := h
      obtain ⟨z7, rfl, q8x, q8l, q8r⟩ := atF ht8
      clear ht8
      refine idx_s ((Ent.sl mp1).now (fun _ h => h) hS) q8x q8l q8r ?_; intro b9 hb9
      replace hS := ro1 hS
      replace h := bnd h
      obtain ⟨t9, ht9, h⟩ := h
      obtain rfl := setF ht9
      clear ht9
      refine sto_s hS hb9 q8r ?_; clear hS; intro w hS
      obtain rfl := some_inj h
      exact hX _ rfl _ _ ⟨_, _, rfl, rfl, (hS.pick (A := [_, _, _]) [1, 0, 0] rfl)⟩
    · obtain rfl := some_inj h
      have h := congrArg some (hO _ rfl)
      obtain rfl := some_inj h
      exact hJ5 _ _ ⟨_, rfl, rfl, hS⟩
  · clear h5 hS
    rintro s w ⟨ws4, rfl, rfl, hS⟩
    have h := c5
    clear c5
    try dsimp only
    refine ⟨_, (hS.cel mp0 rfl), ?_⟩
    refine ⟨_, (hS.cel mp0 rfl), ?_⟩
    refine ⟨_, _, _, (hS.cel mp0 rfl), ?_⟩
    replace hS := ro2 hS
    refine stc_s hS rfl rfl ?_; clear hS; intro w hS
    refine stc_s hS rfl rfl ?_; clear hS; intro w hS
    refine stc_s hS rfl rfl ?_; clear hS; intro w hS
    refine ⟨_, (hS.cel mp0 rfl), ?_⟩
    refine ⟨_, (hS.cel mp0 rfl), ?_⟩
    refine ⟨_, _, _, (hS.cel mp0 rfl), ?_⟩
    have h := some_inj h
    cases h
    exact hK _ _ _ _ _ rfl (hS.pick (A := [_, _, _]) [2] rfl)

theorem wk_math_Float64bits {N : Nums} {P : Program} (H : AllOk N P) {w0 w : World} {L : List It} {q0 : Nat} {u0 : Int} (hS : Ho w0 w L)  (hx : T_math_Float64bits (nf q0) = some u0) {K : Value → World → Prop} (hK : ∀  (w1 : World), Ho w0 w1 (L) → K (.int .u64 u0) w1) : CallsX P N.f_math_Float64bits #[.float .f64 q0] w K := by
  unfold T_math_Float64bits at hx
  have hn : isNaN q0 = false := by
    cases e : isNaN q0 with
    | false => rfl
    | true => rw [isNaN_nf, e] at hx; cases hx
  rw [isNaN_nf, hn, nf_of_not hn] at hx
  have hx := some_inj hx
  subst hx
  exact H.math_Float64bits q0 w _ (hK _ hS)

theorem wk_girderkit_SameFloat {N : Nums} {P : Program} (H : AllOk N P) {w0 w : World} {L : List It} {q0 : Nat} {q1 : Nat} {u0 : Bool} (hS : Ho w0 w L)  (hx : T_girderkit_SameFloat (nf q0) (nf q1) = some u0) {K : Value → World → Prop} (hK : ∀  (w1 : World), Ho w0 w1 (L) → K (.bool u0) w1) : CallsX P N.f_girderkit_SameFloat #[.float .f64 q0, .float .f64 q1] w K := by
  unfold T_girderkit_SameFloat at hx
  have hx := some_inj hx
  subst hx
  refine (sameFloat_c H q0 q1 w).mono ?_
  rintro _ w1 ⟨rfl, h1⟩
  exact hK _ (hS.next h1)

theorem wk_girderkit_SameReals {N : Nums} {P : Program} (H : AllOk N P) {w0 w : World} {L : List It} {q0 : Option Addr} {q0l q0c : Nat} {ws0 : List Nat} {q1 : Option Addr} {q1l q1c : Nat} {ws1 : List Nat} {u0 : Bool} (hS : Ho w0 w L) (hq0 : Ent L (rdA (List.map (Value.float .f64) ws0) q0 q0l q0c)) (hq1 : Ent L (rdA (List.map (Value.float .f64) ws1) q1 q1l q1c)) (hx : T_girderkit_SameReals (List.map nf ws0) (List.map nf ws1) = some u0) {K : Value → World → Prop} (hK : ∀  (w1 : World), Ho w0 w1 (L) → K (.bool u0) w1) : CallsX P N.f_girderkit_SameReals #[.slice q0 q0l q0c, .slice q1 q1l q1c] w K := by
  refine H.girderkit_SameReals q0 q0l q0c q1 q1l q1c w _ ?_
  unfold S_girderkit_SameReals
  unfold T_girderkit_SameReals at hx
  have h := hx
  clear hx
  try dsimp only
  replace h := bnd h
  obtain ⟨t1, ht1, h⟩ := h
  obtain rfl := lenF ht1 (hq0.now (fun _ h => h) hS)
  clear ht1
  replace h := bnd h
  obtain ⟨t2, ht2, h⟩ := h
  obtain rfl := lenF ht2 (hq1.now (fun _ h => h) hS)
  clear ht2
  refine cond_s h ?_ ?_ <;> clear h <;> intro hc h
  · have h := some_inj h
    cases h
    exact hK _ hS
  · replace h := bnd h
    obtain ⟨o1, h1, c1⟩ := h
    refine cutM_i (fun s w =>  .inl () = o1 ∧ s = (()) ∧ Ho w0 w (L)) (fun J1 hJ1 => ?_) ?_
    · have h := h1
      clear h1
      refine iter_sim (fun s w t => ∃ (t3 : Int), t3 = t ∧ s = (t3, ()) ∧ Ho w0 w (L)) ?_ h ⟨_, rfl, rfl, hS⟩
      clear h hS
      rintro s w t X q ⟨t3, rfl, rfl, hS⟩ h hX hO
      unfold T_girderkit_SameReals_b2 at h
      try dsimp only
      replace h := bnd h
      obtain ⟨t4, ht4, h⟩ := h
      obtain rfl := lenF ht4 (hq0.now (fun _ h => h) hS)
      clear ht4
      refine cond_s h ?_ ?_ <;> clear h <;> intro hc h
      · replace h := bnd h
        obtain ⟨t5, ht5, h⟩ := h
        obtain ⟨z2, rfl, q3x, q3l, q3r⟩ := atF ht5
        clear ht5
        refine idx_s (hq0.now (fun _ h => h) hS) q3x q3l q3r ?_; intro b4 hb4
        refine ⟨_, rd_get (hq0.now (fun _ h => h) hS) hb4 q3x, ?_⟩
        replace h := bnd h
        obtain ⟨t6, ht6, h⟩ := h
        obtain ⟨z5, rfl, q6x, q6l, q6r⟩ := atF ht6
        clear ht6
        refine idx_s (hq1.now (fun _ h => h) hS) q6x q6l q6r ?_; intro b7 hb7
        refine ⟨_, rd_get (hq1.now (fun _ h => h) hS) hb7 q6x, ?_⟩
        refine drM_s hS ?_; clear hS; intro w hS
        replace h := bnd h
        obtain ⟨t7, ht7, h⟩ := h
        refine wk_girderkit_SameFloat H hS  ht7 ?_; clear hS ht7; rintro w hS
        refine ⟨_, rfl, ?_⟩
        refine drM_s hS ?_; clear hS; intro w hS
        refine cond_s h ?_ ?_ <;> clear h <;> intro hc h
        · obtain rfl := some_inj h
          have h := congrArg some (hO _ rfl)
          obtain rfl := some_inj h
          have h := c1
          have h := some_inj h
          cases h
          exact hK _ hS
        · obtain rfl := some_inj h
          exact hX _ rfl _ _ ⟨_, rfl, rfl, hS⟩
      · obtain rfl := some_inj h
        have h := congrArg some (hO _ rfl)
        obtain rfl := some_inj h
        exact hJ1 _ _ ⟨rfl, rfl, hS⟩
    · clear h1 hS
      rintro s w ⟨rfl, rfl, hS⟩
      have h := c1
      clear c1
      try dsimp only
      have h := some_inj h
      cases h
      exact hK _ hS

theorem wk_girderkit_SameMatrix {N : Nums} {P : Program} (H : AllOk N P) {w0 w : World} {L : List It} {q0_0 : Int} {q0_1 : Int} {q0_2 : Option Addr} {q0_2l q0_2c : Nat} {ws0_2 : List Nat} {q1_0 : Int} {q1_1 : Int} {q1_2 : Option Addr} {q1_2l q1_2c : Nat} {ws1_2 : List Nat} {u0 : Bool} (hS : Ho w0 w L) (hq0_2 : Ent L (rdA (List.map (Value.float .f64) ws0_2) q0_2 q0_2l q0_2c)) (hq1_2 : Ent L (rdA (List.map (Value.float .f64) ws1_2) q1_2 q1_2l q1_2c)) (hx : T_girderkit_SameMatrix q0_0 q0_1 (List.map nf ws0_2) q1_0 q1_1 (List.map nf ws1_2) = some u0) {K : Value → World → Prop} (hK : ∀  (w1 : World), Ho w0 w1 (L) → K (.bool u0) w1) : CallsX P N.f_girderkit_SameMatrix #[.agg #[.int .i64 q0_0, .int .i64 q0_1, .slice q0_2 q0_2l q0_2c], .agg #[.int .i64 q1_0, .int .i64 q1_1, .slice q1_2 q1_2l q1_2c]] w K := by
  refine H.girderkit_SameMatrix q0_0 q0_1 q0_2 q0_2l q0_2c q1_0 q1_1 q1_2 q1_2l q1_2c w _ ?_
  unfold S_girderkit_SameMatrix
  unfold T_girderkit_SameMatrix at hx
  have h := hx
  clear hx
  try dsimp only
  refine newM_s hS ?_; clear hS; intro r1 w hS
  refine newM_s hS ?_; clear hS; intro r2 w hS
  refine ⟨_, (hS.cel mp1 rfl), ?_⟩
  refine ⟨_, (hS.cel mp0 rfl), ?_⟩
  refine cond_s h ?_ ?_ <;> clear h <;> intro hc h
  · refine ⟨_, (hS.cel mp1 rfl), ?_⟩
    refine ⟨_, (hS.cel mp0 rfl), ?_⟩
    refine cond_s h ?_ ?_ <;> clear h <;> intro hc h
    · refine ⟨_, _, _, (hS.cel mp1 rfl), ?_⟩
      refine ⟨_, _, _, (hS.cel mp0 rfl), ?_⟩
      replace h := bnd h
      obtain ⟨t1, ht1, h⟩ := h
      refine wk_girderkit_SameReals H hS (hq0_2.mono tl2) (hq1_2.mono tl2) ht1 ?_; clear hS ht1; rintro w hS
      refine ⟨_, rfl, ?_⟩
      have h := some_inj h
      cases h
      exact hK _ (hS.pick (A := [_, _]) [] rfl)
    · have h := some_inj h
      cases h
      exact hK _ (hS.pick (A := [_, _]) [] rfl)
  · have h := some_inj h
    cases h
    exact hK _ (hS.pick (A := [_, _]) [] rfl)

theorem wk_girderlaw10_is {N : Nums} {P : Program} (H : AllOk N P) {w0 w : World} {L : List It} {q0_0 : Int} {q0_1 : Int} {q0_2 : Option Addr} {q0_2l q0_2c : Nat} {ws0_2 : List Nat} {q1 : Int} {q2_0 : Int} {q2_1 : Int} {q2_2 : Option Addr} {q2_2l q2_2c : Nat} {ws2_2 : List Nat} {q3 : Int} {u0 : Bool} (hS : Ho w0 w L) (hq0_2 : Ent L (rdA (List.map (Value.float .f64) ws0_2) q0_2 q0_2l q0_2c)) (hq2_2 : Ent L (rdA (List.map (Value.float .f64) ws2_2) q2_2 q2_2l q2_2c)) (hx : T_girderlaw10_is q0_0 q0_1 (List.map nf ws0_2) q1 q2_0 q2_1 (List.map nf ws2_2) q3 = some u0) {K : Value → World → Prop} (hK : ∀  (w1 : World), Ho w0 w1 (L) → K (.bool u0) w1) : CallsX P N.f_girderlaw10_is #[.agg #[.int .i64 q0_0, .int .i64 q0_1, .slice q0_2 q0_2l q0_2c], .int .i64 q1, .agg #[.int .i64 q2_0, .int .i64 q2_1, .slice q2_2 q2_2l q2_2c], .int .i64 q3] w K := by
  refine H.girderlaw10_is q0_0 q0_1 q0_2 q0_2l q0_2c q1 q2_0 q2_1 q2_2 q2_2l q2_2c q3 w _ ?_
  unfold S_girderlaw10_is
  unfold T_girderlaw10_is at hx
  have h := hx
  clear hx
  try dsimp only
  refine newM_s hS ?_; clear hS; intro r1 w hS
  refine newM_s hS ?_; clear hS; intro r2 w hS
  refine cond_s h ?_ ?_ <;> clear h <;> intro hc h
  · refine ⟨_, (hS.cel mp1 rfl), ?_⟩
    refine ⟨_, (hS.cel mp1 rfl), ?_⟩
    refine ⟨_, _, _, (hS.cel mp1 rfl), ?_⟩
    refine ⟨_, (hS.cel mp0 rfl), ?_⟩
    refine ⟨_, (hS.cel mp0 rfl), ?_⟩
    refine ⟨_, _, _, (hS.cel mp0 rfl), ?_⟩
    replace h := bnd h
    obtain ⟨t1, ht1, h⟩ := h
    refine wk_girderkit_SameMatrix H hS (hq0_2.mono tl2) (hq2_2.mono tl2) ht1 ?_; clear hS ht1; rintro w hS
    refine ⟨_, rfl, ?_⟩
    have h := some_inj h
    cases h
    exact hK _ (hS.pick (A := [_, _]) [] rfl)
  · have h := some_inj h
    cases h
    exact hK _ (hS.pick (A := [_, _]) [] rfl)

theorem wk_girderlaw10_of {N : Nums} {P : Program} (H : AllOk N P) {w0 w : World} {L : List It} {q0 : Int} {q1 : Int} {q2 : Option Addr} {q2l q2c : Nat} {ws2 : List Nat} {u0 : Int} {u1 : Int} {u2 : List Nat} (hS : Ho w0 w L) (hq2 : Ent L (rdA (List.map (Value.float .f64) ws2) q2 q2l q2c)) (hx : T_girderlaw10_of q0 q1 (List.map nf ws2) = some (u0, u1, u2)) {K : Value → World → Prop} (hK : ∀  (w1 : World), (List.map nf ws2) = u2 → Ho w0 w1 (L) → K (.agg #[.int .i64 u0, .int .i64 u1, .slice q2 q2l q2c]) w1) : CallsX P N.f_girderlaw10_of #[.int .i64 q0, .int .i64 q1, .slice q2 q2l q2c] w K := by
  refine H.girderlaw10_of q0 q1 q2 q2l q2c w _ ?_
  unfold S_girderlaw10_of
  unfold T_girderlaw10_of at hx
  have h := hx
  clear hx
  try dsimp only
  refine newM_s hS ?_; clear hS; intro r1 w hS
  refine stc_s hS rfl rfl ?_; clear hS; intro w hS
  refine stc_s hS rfl rfl ?_; clear hS; intro w hS
  refine stc_s hS rfl rfl ?_; clear hS; intro w hS
  refine ⟨_, (hS.cel mp0 rfl), ?_⟩
  refine ⟨_, (hS.cel mp0 rfl), ?_⟩
  refine ⟨_, _, _, (hS.cel mp0 rfl), ?_⟩
  have h := some_inj h
  cases h
  exact hK _ rfl (hS.pick (A := [_]) [] rfl)

theorem wk_matrix_Right {N : Nums} {P : Program} (H : AllOk N P) {w0 w : World} {L : List It} {q0_0 : Int} {q0_1 : Int} {q0_2 : Option Addr} {q0_2l q0_2c : Nat} {ws0_2 : List Nat} {u0 : Bool} (hS : Ho w0 w L) (hq0_2 : Ent L (rdA (List.map (Value.float .f64) ws0_2) q0_2 q0_2l q0_2c)) (hx : T_matrix_Right q0_0 q0_1 (List.map nf ws0_2) = some u0) {K : Value → World → Prop} (hK : ∀  (w1 : World), Ho w0 w1 (L) → K (.bool u0) w1) : CallsX P N.f_matrix_Right #[.agg #[.int .i64 q0_0, .int .i64 q0_1, .slice q0_2 q0_2l q0_2c]] w K := by
  refine H.matrix_Right q0_0 q0_1 q0_2 q0_2l q0_2c w _ ?_
  unfold S_matrix_Right
  unfold T_matrix_Right at hx
  have h := hx
  clear hx
  try dsimp only
  refine newM_s hS ?_; clear hS; intro r1 w hS
  refine ⟨_, (hS.cel mp0 rfl), ?_⟩
  replace h := bnd h
  obtain ⟨t1, ht1, h⟩ := h
  refine wk_matrix_fits H hS  ht1 ?_; clear hS ht1; rintro w hS
  refine ⟨_, rfl, ?_⟩
  refine cond_s h ?_ ?_ <;> clear h <;> intro hc h
  · refine ⟨_, (hS.cel mp0 rfl), ?_⟩
    replace h := bnd h
    obtain ⟨t2, ht2, h⟩ := h
    refine wk_matrix_fits H hS  ht2 ?_; clear hS ht2; rintro w hS
    refine ⟨_, rfl, ?_⟩
    refine cond_s h ?_ ?_ <;> clear h <;> intro hc h
    · refine ⟨_, _, _, (hS.cel mp0 rfl), ?_⟩
      replace h := bnd h
      obtain ⟨t3, ht3, h⟩ := h
      obtain rfl := lenF ht3 ((hq0_2.mono tl1).now (fun _ h => h) hS)
      clear ht3
      refine ⟨_, (hS.cel mp0 rfl), ?_⟩
      refine ⟨_, (hS.cel mp0 rfl), ?_⟩
      have h := some_inj h
      cases h
      exact hK _ (hS.pick (A := [_]) [] rfl)
    · have h := some_inj h
      cases h
      exact hK _ (hS.pick (A := [_]) [] rfl)
  · have h := some_inj h
    cases h
    exact hK _ (hS.pick (A := [_]) [] rfl)

theorem wk_matrix_Mul_1 {N : Nums} {P : Program} (H : AllOk N P) {w0 w : World} {L : List It} {q0 : Int} {q1 : Int} {r_2 : Nat} {q2_0 : Int} {q2_1 : Int} {q2_2 : Option Addr} {q2_2l q2_2c : Nat} {ws2_2 : List Nat} {r_3 : Nat} {q3_0 : Int} {q3_1 : Int} {q3_2 : Option Addr} {q3_2l q3_2c : Nat} {ws3_2 : List Nat} {u0 : Nat} (hS : Ho w0 w L) (eq2 : Ent L (cl r_2 [.int .i64 q2_0, .int .i64 q2_1, .slice q2_2 q2_2l q2_2c] N.t_Matrix).A) (hq2_2 : Ent L (rdA (List.map (Value.float .f64) ws2_2) q2_2 q2_2l q2_2c)) (eq3 : Ent L (cl r_3 [.int .i64 q3_0, .int .i64 q3_1, .slice q3_2 q3_2l q3_2c] N.t_Matrix).A) (hq3_2 : Ent L (rdA (List.map (Value.float .f64) ws3_2) q3_2 q3_2l q3_2c)) (hx : T_matrix_Mul_1 q0 q1 q2_0 q2_1 (List.map nf ws2_2) q3_0 q3_1 (List.map nf ws3_2) = some u0) {K : Value → World → Prop} (hK : ∀ (z0 : Nat) (w1 : World), nf z0 = u0 → Ho w0 w1 (L) → K (.float .f64 z0) w1) : CallsX P N.f_matrix_Mul_1 #[.int .i64 q0, .int .i64 q1, .pointer (some ⟨r_2, 0, none⟩), .pointer (some ⟨r_3, 0, none⟩)] w K := by
  refine H.matrix_Mul_1 q0 q1 (some ⟨r_2, 0, none⟩) (some ⟨r_3, 0, none⟩) w _ ?_
  unfold S_matrix_Mul_1
  unfold T_matrix_Mul_1 at hx
  have h := hx
  clear hx
  try dsimp only
  refine optM_s ?_
  refine ⟨_, (eq2.cel (fun _ h => h) hS rfl), ?_⟩
  replace h := bnd h
  obtain ⟨o2, h2, c2⟩ := h
  refine cutM_i (fun s w => ∃ (z1 : Nat), (nf z1) = o2 ∧ s = (z1, ()) ∧ Ho w0 w (L)) (fun J2 hJ2 => ?_) ?_
  · have h := h2
    clear h2
    refine iter_sim (fun s w t => ∃ (z3 : Nat) (t3 : Int), ((nf z3), t3) = t ∧ s = (z3, t3, ()) ∧ Ho w0 w (L)) ?_ h ⟨_, _, rfl, rfl, hS⟩
    clear h hS
    rintro s w t X q ⟨z3, t3, rfl, rfl, hS⟩ h hX hO
    unfold T_matrix_Mul_1_b2 at h
    try dsimp only
    refine cond_s h ?_ ?_ <;> clear h <;> intro hc h
    · refine optM_s ?_
      refine ⟨_, _, _, (eq2.cel (fun _ h => h) hS rfl), ?_⟩
      refine optM_s ?_
      refine ⟨_, (eq2.cel (fun _ h => h) hS rfl), ?_⟩
      replace h := bnd h
      obtain ⟨t4, ht4, h⟩ := h
      obtain ⟨z4, rfl, q5x, q5l, q5r⟩ := atF ht4
      clear ht4
      refine idx_s (hq2_2.now (fun _ h => h) hS) q5x q5l q5r ?_; intro b6 hb6
      refine ⟨_, rd_get (hq2_2.now (fun _ h => h) hS) hb6 q5x, ?_⟩
      refine optM_s ?_
      refine ⟨_, _, _, (eq3.cel (fun _ h => h) hS rfl), ?_⟩
      refine optM_s ?_
      refine ⟨_, (eq3.cel (fun _ h => h) hS rfl), ?_⟩
      replace h := bnd h
      obtain ⟨t5, ht5, h⟩ := h
      obtain ⟨z7, rfl, q8x, q8l, q8r⟩ := atF ht5
      clear ht5
      refine idx_s (hq3_2.now (fun _ h => h) hS) q8x q8l q8r ?_; intro b9 hb9
      refine ⟨_, rd_get (hq3_2.now (fun _ h => h) hS) hb9 q8x, ?_⟩
      replace h := bnd h
      obtain ⟨t6, ht6, h⟩ := h
      refine fmul_s ht6 hS ?_; clear ht6; rintro z10 _ rfl _
      replace h := bnd h
      obtain ⟨t7, ht7, h⟩ := h
      refine fadd_s ht7 hS ?_; clear ht7; rintro z11 _ rfl _
      refine drM_s hS ?_; clear hS; intro w hS
      obtain rfl := some_inj h
      exact hX _ rfl _ _ ⟨_, _, rfl, rfl, hS⟩
    · obtain rfl := some_inj h
      have h := congrArg some (hO _ rfl)
      obtain rfl := some_inj h
      exact hJ2 _ _ ⟨_, rfl, rfl, hS⟩
  · clear h2 hS
    rintro s w ⟨z1, rfl, rfl, hS⟩
    have h := c2
    clear c2
    try dsimp only
    have h := some_inj h
    cases h
    exact hK _ _ rfl hS

theorem wk_matrix_Mul {N : Nums} {P : Program} (H : AllOk N P) {w0 w : World} {L : List It} {q0_0 : Int} {q0_1 : Int} {q0_2 : Option Addr} {q0_2l q0_2c : Nat} {ws0_2 : List Nat} {q1_0 : Int} {q1_1 : Int} {q1_2 : Option Addr} {q1_2l q1_2c : Nat} {ws1_2 : List Nat} {u0 : Int} {u1 : Int} {u2 : List Nat} {u3 : Int} (hS : Ho w0 w L) (hq0_2 : Ent L (rdA (List.map (Value.float .f64) ws0_2) q0_2 q0_2l q0_2c)) (hq1_2 : Ent L (rdA (List.map (Value.float .f64) ws1_2) q1_2 q1_2l q1_2c)) (hx : T_matrix_Mul q0_0 q0_1 (List.map nf ws0_2) q1_0 q1_1 (List.map nf ws1_2) = some (u0, u1, u2, u3)) {K : Value → World → Prop} (hK : ∀ (a2 : Option Addr) (n2 c2 : Nat) (rws2 : List Nat) (w1 : World), List.map nf rws2 = u2 → Ho w0 w1 ((sl a2 n2 c2 (List.map (Value.float .f64) rws2) N.t_float64) :: L) → K (.tuple #[.agg #[.int .i64 u0, .int .i64 u1, .slice a2 n2 c2], .int .i64 u3]) w1) : CallsX P N.f_matrix_Mul #[.agg #[.int .i64 q0_0, .int .i64 q0_1, .slice q0_2 q0_2l q0_2c], .agg #[.int .i64 q1_0, .int .i64 q1_1, .slice q1_2 q1_2l q1_2c]] w K := by
  refine H.matrix_Mul q0_0 q0_1 q0_2 q0_2l q0_2c q1_0 q1_1 q1_2 q1_2l q1_2c w _ ?_
  unfold S_matrix_Mul
  unfold T_matrix_Mul at hx
  have h := hx
  clear hx
  try dsimp only
  refine newM_s hS ?_; clear hS; intro r1 w hS
  refine newM_s hS ?_; clear hS; intro r2 w hS
  refine newM_s hS ?_; clear hS; intro r3 w hS
  replace h := bnd h
  obtain ⟨o4, h4, c4⟩ := h
  refine cutM_i (fun s w => ∃ (t1 : Bool), t1 = o4 ∧ s = (t1, ()) ∧ Ho w0 w ((cl r3 [.int .i64 0, .int .i64 0, .slice none 0 0] N.t_Matrix) :: (cl r2 [.int .i64 q1_0, .int .i64 q1_1, .slice q1_2 q1_2l q1_2c] N.t_Matrix) :: (cl r1 [.int .i64 q0_0, .int .i64 q0_1, .slice q0_2 q0_2l q0_2c] N.t_Matrix) :: L)) (fun J4 hJ4 => ?_) ?_
  · have h := h4
    clear h4
    refine ⟨_, (hS.cel mp2 rfl), ?_⟩
    refine ⟨_, (hS.cel mp2 rfl), ?_⟩
    refine ⟨_, _, _, (hS.cel mp2 rfl), ?_⟩
    replace h := bnd h
    obtain ⟨t2, ht2, h⟩ := h
    refine wk_matrix_Right H hS (hq0_2.mono tl3) ht2 ?_; clear hS ht2; rintro w hS
    refine ⟨_, rfl, ?_⟩
    refine cond_s h ?_ ?_ <;> clear h <;> intro hc h
    · refine ⟨_, (hS.cel mp1 rfl), ?_⟩
      refine ⟨_, (hS.cel mp1 rfl), ?_⟩
      refine ⟨_, _, _, (hS.cel mp1 rfl), ?_⟩
      replace h := bnd h
      obtain ⟨t3, ht3, h⟩ := h
      refine wk_matrix_Right H hS (hq1_2.mono tl3) ht3 ?_; clear hS ht3; rintro w hS
      refine ⟨_, rfl, ?_⟩
      refine cond_s h ?_ ?_ <;> clear h <;> intro hc h
      · refine ⟨_, (hS.cel mp2 rfl), ?_⟩
        refine ⟨_, (hS.cel mp1 rfl), ?_⟩
        obtain rfl := some_inj h
        exact hJ4 _ _ ⟨_, rfl, rfl, hS⟩
      · obtain rfl := some_inj h
        exact hJ4 _ _ ⟨_, rfl, rfl, hS⟩
    · obtain rfl := some_inj h
      exact hJ4 _ _ ⟨_, rfl, rfl, hS⟩
  · clear h4 hS
    rintro s w ⟨t1, rfl, rfl, hS⟩
    have h := c4
    clear c4
    try dsimp only
    refine cond_s h ?_ ?_ <;> clear h <;> intro hc h
    · refine stc_s hS rfl rfl ?_; clear hS; intro w hS
      refine stc_s hS rfl rfl ?_; clear hS; intro w hS
      refine stc_s hS rfl rfl ?_; clear hS; intro w hS
      refine ⟨_, (hS.cel mp0 rfl), ?_⟩
      refine ⟨_, (hS.cel mp0 rfl), ?_⟩
      refine ⟨_, _, _, (hS.cel mp0 rfl), ?_⟩
      replace hS := hS.none (α := Nat) (enc := (Value.float .f64)) (t := N.t_float64)
      have h := some_inj h
      cases h
      exact hK _ _ _ _ _ rfl (hS.pick (A := [_, _, _, _]) [0] rfl)
    · refine ⟨_, (hS.cel mp2 rfl), ?_⟩
      refine ⟨_, (hS.cel mp1 rfl), ?_⟩
      replace h := bnd h
      obtain ⟨⟨t4, t5, t6⟩, ho4, h⟩ := h
      refine wk_matrix_laid H hS (by intro v0 v1 w L1 r1 K hL hx hS hK; exact wk_matrix_Mul_1 H hS ((Ent.of mp2).mono hL) ((hq0_2.mono tl3).mono hL) ((Ent.of mp1).mono hL) ((hq1_2.mono tl3).mono hL) hx hK) ho4 ?_; clear hS ho4; rintro a5 m5 c5 ws5 w rfl hS
      refine ⟨_, _, _, _, _, rfl, ?_⟩
      replace hS := ro1 hS
      refine stc_s hS rfl rfl ?_; clear hS; intro w hS
      refine stc_s hS rfl rfl ?_; clear hS; intro w hS
      refine stc_s hS rfl rfl ?_; clear hS; intro w hS
      refine ⟨_, (hS.cel mp0 rfl), ?_⟩
      refine ⟨_, (hS.cel mp0 rfl), ?_⟩
      refine ⟨_, _, _, (hS.cel mp0 rfl), ?_⟩
      have h := some_inj h
      cases h
      exact hK _ _ _ _ _ rfl (hS.pick (A := [_, _, _, _]) [1] rfl)

theorem wk_math_Float64frombits {N : Nums} {P : Program} (H : AllOk N P) {w0 w : World} {L : List It} {q0 : Int} {u0 : Nat} (hS : Ho w0 w L)  (hx : T_math_Float64frombits q0 = some u0) {K : Value → World → Prop} (hK : ∀ (z0 : Nat) (w1 : World), nf z0 = u0 → Ho w0 w1 (L) → K (.float .f64 z0) w1) : CallsX P N.f_math_Float64frombits #[.int .u64 q0] w K := by
  unfold T_math_Float64frombits at hx
  have hx := some_inj hx
  exact H.math_Float64frombits q0 w _ (hK _ _ hx hS)

theorem wk_math_Copysign {N : Nums} {P : Program} (H : AllOk N P) {w0 w : World} {L : List It} {q0 : Nat} {q1 : Nat} {u0 : Nat} (hS : Ho w0 w L)  (hx : T_math_Copysign (nf q0) (nf q1) = some u0) {K : Value → World → Prop} (hK : ∀ (z0 : Nat) (w1 : World), nf z0 = u0 → Ho w0 w1 (L) → K (.float .f64 z0) w1) : CallsX P N.f_math_Copysign #[.float .f64 q0, .float .f64 q1] w K := by
  unfold T_math_Copysign at hx
  have hn : isNaN q1 = false := by
    cases e : isNaN q1 with
    | false => rfl
    | true => rw [isNaN_nf, e] at hx; cases hx
  rw [isNaN_nf, hn, nf_of_not hn] at hx
  have hx := some_inj hx
  refine (copysign_c H q0 q1 w).mono ?_
  rintro _ w1 ⟨rfl, h1⟩
  exact hK _ _ ((nf_copy _ _).symm.trans hx) (hS.next h1)

theorem wk_math_Inf {N : Nums} {P : Program} (H : AllOk N P) {w0 w : World} {L : List It} {q0 : Int} {u0 : Nat} (hS : Ho w0 w L)  (hx : T_math_Inf q0 = some u0) {K : Value → World → Prop} (hK : ∀ (z0 : Nat) (w1 : World), nf z0 = u0 → Ho w0 w1 (L) → K (.float .f64 z0) w1) : CallsX P N.f_math_Inf #[.int .i64 q0] w K := by
  refine H.math_Inf q0 w _ ?_
  unfold S_math_Inf
  unfold T_math_Inf at hx
  have h := hx
  clear hx
  try dsimp only
  replace h := bnd h
  obtain ⟨o1, h1, c1⟩ := h
  refine cutM_i (fun s w => ∃ (t1 : Int), t1 = o1 ∧ s = (t1, ()) ∧ Ho w0 w (L)) (fun J1 hJ1 => ?_) ?_
  · have h := h1
    clear h1
    refine cond_s h ?_ ?_ <;> clear h <;> intro hc h
    · obtain rfl := some_inj h
      exact hJ1 _ _ ⟨_, rfl, rfl, hS⟩
    · obtain rfl := some_inj h
      exact hJ1 _ _ ⟨_, rfl, rfl, hS⟩
  · clear h1 hS
    rintro s w ⟨t1, rfl, rfl, hS⟩
    have h := c1
    clear c1
    try dsimp only
    replace h := bnd h
    obtain ⟨t2, ht2, h⟩ := h
    refine wk_math_Float64frombits H hS  ht2 ?_; clear hS ht2; rintro z2 w rfl hS
    refine ⟨_, rfl, ?_⟩
    have h := some_inj h
    cases h
    exact hK _ _ rfl hS

theorem wk_slices_IndexFunc___float64_float64 {N : Nums} {P : Program} (H : AllOk N P) {w0 w : World} {L : List It} {q0 : Option Addr} {q0l q0c : Nat} {ws0 : List Nat} {q1 : Value} {f1 : Nat → Option Bool} {u0 : Int} (hS : Ho w0 w L) (hq0 : Ent L (rdA (List.map (Value.float .f64) ws0) q0 q0l q0c)) (hf1 : ∀ (v0 : Nat) (w : World) (L1 : List It) (r1 : Bool) (K : Value → World → Prop), (∀ e, e ∈ L → e ∈ L1) → f1 (nf v0) = some r1 → Ho w0 w L1 → (∀ w1 : World, Ho w0 w1 L1 → K (.bool r1) w1) → fnM q1 fun g gp gq => CallsX P g (gp.toList ++ (([.float .f64 v0] : List Value) ++ gq.toList)).toArray w K) (hx : T_slices_IndexFunc___float64_float64 (List.map nf ws0) f1 = some u0) {K : Value → World → Prop} (hK : ∀  (w1 : World), Ho w0 w1 (L) → K (.int .i64 u0) w1) : CallsX P N.f_slices_IndexFunc___float64_float64 #[.slice q0 q0l q0c, q1] w K := by
  refine H.slices_IndexFunc___float64_float64 q0 q0l q0c q1 w _ ?_
  unfold S_slices_IndexFunc___float64_float64
  unfold T_slices_IndexFunc___float64_float64 at hx
  have h := hx
  clear hx
  try dsimp only
  replace h := bnd h
  obtain ⟨t1, ht1, h⟩ := h
  obtain rfl := lenF ht1 (hq0.now (fun _ h => h) hS)
  clear ht1
  replace h := bnd h
  obtain ⟨o1, h1, c1⟩ := h
  refine cutM_i (fun s w =>  .inl () = o1 ∧ s = (()) ∧ Ho w0 w (L)) (fun J1 hJ1 => ?_) ?_
  · have h := h1
    clear h1
    refine iter_sim (fun s w t => ∃ (t2 : Int), t2 = t ∧ s = (t2, ()) ∧ Ho w0 w (L)) ?_ h ⟨_, rfl, rfl, hS⟩
    clear h hS
    rintro s w t X q ⟨t2, rfl, rfl, hS⟩ h hX hO
    unfold T_slices_IndexFunc___float64_float64_b2 at h
    try dsimp only
    refine cond_s h ?_ ?_ <;> clear h <;> intro hc h
    · replace h := bnd h
      obtain ⟨t3, ht3, h⟩ := h
      obtain ⟨z2, rfl, q3x, q3l, q3r⟩ := atF ht3
      clear ht3
      refine idx_s (hq0.now (fun _ h => h) hS) q3x q3l q3r ?_; intro b4 hb4
      refine ⟨_, rd_get (hq0.now (fun _ h => h) hS) hb4 q3x, ?_⟩
      replace h := bnd h
      obtain ⟨t4, ht4, h⟩ := h
      refine hf1 _ _ _ _ _ (fun _ h => h) ht4 hS ?_; clear hS ht4; rintro w hS
      refine ⟨_, rfl, ?_⟩
      refine cond_s h ?_ ?_ <;> clear h <;> intro hc h
      · obtain rfl := some_inj h
        have h := congrArg some (hO _ rfl)
        obtain rfl := some_inj h
        have h := c1
        have h := some_inj h
        cases h
        exact hK _ hS
      · obtain rfl := some_inj h
        exact hX _ rfl _ _ ⟨_, rfl, rfl, hS⟩
    · obtain rfl := some_inj h
      have h := congrArg some (hO _ rfl)
      obtain rfl := some_inj h
      exact hJ1 _ _ ⟨rfl, rfl, hS⟩
  · clear h1 hS
    rintro s w ⟨rfl, rfl, hS⟩
    have h := c1
    clear c1
    try dsimp only
    have h := some_inj h
    cases h
    exact hK _ hS

theorem wk_slices_ContainsFunc___float64_float64 {N : Nums} {P : Program} (H : AllOk N P) {w0 w : World} {L : List It} {q0 : Option Addr} {q0l q0c : Nat} {ws0 : List Nat} {q1 : Value} {f1 : Nat → Option Bool} {u0 : Bool} (hS : Ho w0 w L) (hq0 : Ent L (rdA (List.map (Value.float .f64) ws0) q0 q0l q0c)) (hf1 : ∀ (v0 : Nat) (w : World) (L1 : List It) (r1 : Bool) (K : Value → World → Prop), (∀ e, e ∈ L → e ∈ L1) → f1 (nf v0) = some r1 → Ho w0 w L1 → (∀ w1 : World, Ho w0 w1 L1 → K (.bool r1) w1) → fnM q1 fun g gp gq => CallsX P g (gp.toList ++ (([.float .f64 v0] : List Value) ++ gq.toList)).toArray w K) (hx : T_slices_ContainsFunc___float64_float64 (List.map nf ws0) f1 = some u0) {K : Value → World → Prop} (hK : ∀  (w1 : World), Ho w0 w1 (L) → K (.bool u0) w1) : CallsX P N.f_slices_ContainsFunc___float64_float64 #[.slice q0 q0l q0c, q1] w K := by
  refine H.slices_ContainsFunc___float64_float64 q0 q0l q0c q1 w _ ?_
  unfold S_slices_ContainsFunc___float64_float64
  unfold T_slices_ContainsFunc___float64_float64 at hx
  have h := hx
  clear hx
  try dsimp only
  replace h := bnd h
  obtain ⟨t1, ht1, h⟩ := h
  refine wk_slices_IndexFunc___float64_float64 H hS hq0 (by intro v0 w L1 r1 K hL hx hS hK; exact hf1 v0 w L1 r1 K hL hx hS hK) ht1 ?_; clear hS ht1; rintro w hS
  refine ⟨_, rfl, ?_⟩
  have h := some_inj h
  cases h
  exact hK _ hS

theorem wk_matrix_Norm_1 {N : Nums} {P : Program} (H : AllOk N P) {w0 w : World} {L : List It} {q0 : Nat} {u0 : Bool} (hS : Ho w0 w L)  (hx : T_matrix_Norm_1 (nf q0) = some u0) {K : Value → World → Prop} (hK : ∀  (w1 : World), Ho w0 w1 (L) → K (.bool u0) w1) : CallsX P N.f_matrix_Norm_1 #[.float .f64 q0] w K := by
  refine H.matrix_Norm_1 q0 w _ ?_
  unfold S_matrix_Norm_1
  unfold T_matrix_Norm_1 at hx
  have h := hx
  clear hx
  try dsimp only
  replace h := bnd h
  obtain ⟨t1, ht1, h⟩ := h
  refine fsub_s ht1 hS ?_; clear hS ht1; rintro z1 w rfl hS
  replace h := bnd h
  obtain ⟨t2, ht2, h⟩ := h
  obtain rfl := fne_s ht2
  clear ht2
  have h := some_inj h
  cases h
  exact hK _ hS

theorem wk_math_Abs {N : Nums} {P : Program} (H : AllOk N P) {w0 w : World} {L : List It} {q0 : Nat} {u0 : Nat} (hS : Ho w0 w L)  (hx : T_math_Abs (nf q0) = some u0) {K : Value → World → Prop} (hK : ∀ (z0 : Nat) (w1 : World), nf z0 = u0 → Ho w0 w1 (L) → K (.float .f64 z0) w1) : CallsX P N.f_math_Abs #[.float .f64 q0] w K := by
  unfold T_math_Abs at hx
  have hx := some_inj hx
  refine (abs_c H q0 w).mono ?_
  rintro _ w1 ⟨rfl, h1⟩
  exact hK _ _ ((nf_magF q0).symm.trans hx) (hS.next h1)

theorem wk_round_way {N : Nums} {P : Program} (H : AllOk N P) {w0 w : World} {L : List It} {q0 : Int} {u0 : Int} (hS : Ho w0 w L)  (hx : T_round_way q0 = some u0) {K : Value → World → Prop} (hK : ∀  (w1 : World), Ho w0 w1 (L) → K (.int .i8 u0) w1) : CallsX P N.f_round_way #[.int .i8 q0] w K := by
  refine H.round_way q0 w _ ?_
  unfold S_round_way
  unfold T_round_way at hx
  have h := hx
  clear hx
  try dsimp only
  refine cond_s h ?_ ?_ <;> clear h <;> intro hc h
  · refine cond_s h ?_ ?_ <;> clear h <;> intro hc h
    · have h := some_inj h
      cases h
      exact hK _ hS
    · have h := some_inj h
      cases h
      exact hK _ hS
  · have h := some_inj h
    cases h
    exact hK _ hS

theorem wk_math_IsNaN {N : Nums} {P : Program} (H : AllOk N P) {w0 w : World} {L : List It} {q0 : Nat} {u0 : Bool} (hS : Ho w0 w L)  (hx : T_math_IsNaN (nf q0) = some u0) {K : Value → World → Prop} (hK : ∀  (w1 : World), Ho w0 w1 (L) → K (.bool u0) w1) : CallsX P N.f_math_IsNaN #[.float .f64 q0] w K := by
  refine H.math_IsNaN q0 w _ ?_
  unfold S_math_IsNaN
  unfold T_math_IsNaN at hx
  have h := hx
  clear hx
  try dsimp only
  replace h := bnd h
  obtain ⟨t1, ht1, h⟩ := h
  obtain rfl := fne_s ht1
  clear ht1
  have h := some_inj h
  cases h
  exact hK _ hS

theorem wk_math_IsInf {N : Nums} {P : Program} (H : AllOk N P) {w0 w : World} {L : List It} {q0 : Nat} {q1 : Int} {u0 : Bool} (hS : Ho w0 w L)  (hx : T_math_IsInf (nf q0) q1 = some u0) {K : Value → World → Prop} (hK : ∀  (w1 : World), Ho w0 w1 (L) → K (.bool u0) w1) : CallsX P N.f_math_IsInf #[.float .f64 q0, .int .i64 q1] w K := by
  refine H.math_IsInf q0 q1 w _ ?_
  unfold S_math_IsInf
  unfold T_math_IsInf at hx
  have h := hx
  clear hx
  try dsimp only
  replace h := bnd h
  obtain ⟨o2, h2, c2⟩ := h
  refine cutM_i (fun s w => ∃ (z1 : Nat), (nf z1) = o2 ∧ s = (z1, ()) ∧ Ho w0 w (L)) (fun J2 hJ2 => ?_) ?_
  · have h := h2
    clear h2
    refine cond_s h ?_ ?_ <;> clear h <;> intro hc h
    · replace h := bnd h
      obtain ⟨t2, ht2, h⟩ := h
      refine wk_math_Abs H hS  ht2 ?_; clear hS ht2; rintro z3 w rfl hS
      refine ⟨_, rfl, ?_⟩
      obtain rfl := some_inj h
      exact hJ2 _ _ ⟨_, rfl, rfl, hS⟩
    · replace h := bnd h
      obtain ⟨o5, h5, c5⟩ := h
      refine cutM_i (fun s w => ∃ (z4 : Nat), (nf z4) = o5 ∧ s = (z4, ()) ∧ Ho w0 w (L)) (fun J5 hJ5 => ?_) ?_
      · have h := h5
        clear h5
        refine cond_s h ?_ ?_ <;> clear h <;> intro hc h
        · replace h := bnd h
          obtain ⟨t4, ht4, h⟩ := h
          obtain rfl := fneg_s ht4
          clear ht4
          obtain rfl := some_inj h
          exact hJ5 _ _ ⟨_, rfl, rfl, hS⟩
        · obtain rfl := some_inj h
          exact hJ5 _ _ ⟨_, rfl, rfl, hS⟩
      · clear h5 hS
        rintro s w ⟨z4, rfl, rfl, hS⟩
        have h := c5
        clear c5
        try dsimp only
        obtain rfl := some_inj h
        exact hJ2 _ _ ⟨_, rfl, rfl, hS⟩
  · clear h2 hS
    rintro s w ⟨z1, rfl, rfl, hS⟩
    have h := c2
    clear c2
    try dsimp only
    replace h := bnd h
    obtain ⟨t5, ht5, h⟩ := h
    obtain rfl := fgt_s ht5
    clear ht5
    have h := some_inj h
    cases h
    exact hK _ hS

theorem wk_round_finite {N : Nums} {P : Program} (H : AllOk N P) {w0 w : World} {L : List It} {q0 : Option Addr} {q0l q0c : Nat} {ws0 : List Nat} {u0 : Bool} (hS : Ho w0 w L) (hq0 : Ent L (rdA (List.map (Value.float .f64) ws0) q0 q0l q0c)) (hx : T_round_finite (List.map nf ws0) = some u0) {K : Value → World → Prop} (hK : ∀  (w1 : World), Ho w0 w1 (L) → K (.bool u0) w1) : CallsX P N.f_round_finite #[.slice q0 q0l q0c] w K := by
  refine H.round_finite q0 q0l q0c w _ ?_
  unfold S_round_finite
  unfold T_round_finite at hx
  have h := hx
  clear hx
  try dsimp only
  replace h := bnd h
  obtain ⟨t1, ht1, h⟩ := h
  obtain rfl := lenF ht1 (hq0.now (fun _ h => h) hS)
  clear ht1
  replace h := bnd h
  obtain ⟨o1, h1, c1⟩ := h
  refine cutM_i (fun s w =>  .inl () = o1 ∧ s = (()) ∧ Ho w0 w (L)) (fun J1 hJ1 => ?_) ?_
  · have h := h1
    clear h1
    refine iter_sim (fun s w t => ∃ (t2 : Int), t2 = t ∧ s = (t2, ()) ∧ Ho w0 w (L)) ?_ h ⟨_, rfl, rfl, hS⟩
    clear h hS
    rintro s w t X q ⟨t2, rfl, rfl, hS⟩ h hX hO
    unfold T_round_finite_b2 at h
    try dsimp only
    refine cond_s h ?_ ?_ <;> clear h <;> intro hc h
    · replace h := bnd h
      obtain ⟨t3, ht3, h⟩ := h
      obtain ⟨z2, rfl, q3x, q3l, q3r⟩ := atF ht3
      clear ht3
      refine idx_s (hq0.now (fun _ h => h) hS) q3x q3l q3r ?_; intro b4 hb4
      refine ⟨_, rd_get (hq0.now (fun _ h => h) hS) hb4 q3x, ?_⟩
      replace h := bnd h
      obtain ⟨t4, ht4, h⟩ := h
      refine wk_math_IsNaN H hS  ht4 ?_; clear hS ht4; rintro w hS
      refine ⟨_, rfl, ?_⟩
      refine cond_s h ?_ ?_ <;> clear h <;> intro hc h
      · replace h := bnd h
        obtain ⟨t5, ht5, h⟩ := h
        refine wk_math_IsInf H hS  ht5 ?_; clear hS ht5; rintro w hS
        refine ⟨_, rfl, ?_⟩
        refine cond_s h ?_ ?_ <;> clear h <;> intro hc h
        · obtain rfl := some_inj h
          have h := congrArg some (hO _ rfl)
          obtain rfl := some_inj h
          have h := c1
          have h := some_inj h
          cases h
          exact hK _ hS
        · obtain rfl := some_inj h
          exact hX _ rfl _ _ ⟨_, rfl, rfl, hS⟩
      · obtain rfl := some_inj h
        have h := congrArg some (hO _ rfl)
        obtain rfl := some_inj h
        have h := c1
        have h := some_inj h
        cases h
        exact hK _ hS
    · obtain rfl := some_inj h
      have h := congrArg some (hO _ rfl)
      obtain rfl := some_inj h
      exact hJ1 _ _ ⟨rfl, rfl, hS⟩
  · clear h1 hS
    rintro s w ⟨rfl, rfl, hS⟩
    have h := c1
    clear c1
    try dsimp only
    have h := some_inj h
    cases h
    exact hK _ hS

theorem wk_math_Signbit {N : Nums} {P : Program} (H : AllOk N P) {w0 w : World} {L : List It} {q0 : Nat} {u0 : Bool} (hS : Ho w0 w L)  (hx : T_math_Signbit (nf q0) = some u0) {K : Value → World → Prop} (hK : ∀  (w1 : World), Ho w0 w1 (L) → K (.bool u0) w1) : CallsX P N.f_math_Signbit #[.float .f64 q0] w K := by
  unfold T_math_Signbit at hx
  have hn : isNaN q0 = false := by
    cases e : isNaN q0 with
    | false => rfl
    | true => rw [isNaN_nf, e] at hx; cases hx
  rw [isNaN_nf, hn, nf_of_not hn] at hx
  have hx := some_inj hx
  subst hx
  refine (signbit_c H q0 w).mono ?_
  rintro _ w1 ⟨rfl, h1⟩
  exact hK _ (hS.next h1)

theorem wk_round_none {N : Nums} {P : Program} (H : AllOk N P) {w0 w : World} {L : List It} {q0 : Int} {u0 : Nat} (hS : Ho w0 w L)  (hx : T_round_none q0 = some u0) {K : Value → World → Prop} (hK : ∀ (z0 : Nat) (w1 : World), nf z0 = u0 → Ho w0 w1 (L) → K (.float .f64 z0) w1) : CallsX P N.f_round_none #[.int .i8 q0] w K := by
  refine H.round_none q0 w _ ?_
  unfold S_round_none
  unfold T_round_none at hx
  have h := hx
  clear hx
  try dsimp only
  refine cond_s h ?_ ?_ <;> clear h <;> intro hc h
  · replace h := bnd h
    obtain ⟨t1, ht1, h⟩ := h
    refine wk_math_Copysign H hS  ht1 ?_; clear hS ht1; rintro z1 w rfl hS
    refine ⟨_, rfl, ?_⟩
    have h := some_inj h
    cases h
    exact hK _ _ rfl hS
  · have h := some_inj h
    cases h
    exact hK _ _ rfl hS

theorem wk_round_step {N : Nums} {P : Program} (H : AllOk N P) {w0 w : World} {L : List It} {q0 : Nat} {q1 : Bool} {u0 : Nat} (hS : Ho w0 w L)  (hx : T_round_step (nf q0) q1 = some u0) {K : Value → World → Prop} (hK : ∀ (z0 : Nat) (w1 : World), nf z0 = u0 → Ho w0 w1 (L) → K (.float .f64 z0) w1) : CallsX P N.f_round_step #[.float .f64 q0, .bool q1] w K := by
  refine H.round_step q0 q1 w _ ?_
  unfold S_round_step
  unfold T_round_step at hx
  have h := hx
  clear hx
  try dsimp only
  replace h := bnd h
  obtain ⟨t1, ht1, h⟩ := h
  refine wk_math_Float64bits H hS  ht1 ?_; clear hS ht1; rintro w hS
  refine ⟨_, rfl, ?_⟩
  replace h := bnd h
  obtain ⟨o1, h1, c1⟩ := h
  refine cutM_i (fun s w => ∃ (t2 : Int), t2 = o1 ∧ s = (t2, ()) ∧ Ho w0 w (L)) (fun J1 hJ1 => ?_) ?_
  · have h := h1
    clear h1
    replace h := bnd h
    obtain ⟨t3, ht3, h⟩ := h
    obtain rfl := feq_s ht3
    clear ht3
    replace h := bnd h
    obtain ⟨o2, h2, c2⟩ := h
    refine cutM_i (fun s w => ∃ (t4 : Int), t4 = o2 ∧ s = (t4, ()) ∧ Ho w0 w (L)) (fun J2 hJ2 => ?_) ?_
    · have h := h2
      clear h2
      refine cond_s h ?_ ?_ <;> clear h <;> intro hc h
      · replace h := bnd h
        obtain ⟨o3, h3, c3⟩ := h
        refine cutM_i (fun s w => ∃ (t5 : Int), t5 = o3 ∧ s = (t5, ()) ∧ Ho w0 w (L)) (fun J3 hJ3 => ?_) ?_
        · have h := h3
          clear h3
          refine cond_s h ?_ ?_ <;> clear h <;> intro hc h
          · obtain rfl := some_inj h
            exact hJ3 _ _ ⟨_, rfl, rfl, hS⟩
          · obtain rfl := some_inj h
            exact hJ3 _ _ ⟨_, rfl, rfl, hS⟩
        · clear h3 hS
          rintro s w ⟨t5, rfl, rfl, hS⟩
          have h := c3
          clear c3
          try dsimp only
          obtain rfl := some_inj h
          exact hJ2 _ _ ⟨_, rfl, rfl, hS⟩
      · replace h := bnd h
        obtain ⟨t6, ht6, h⟩ := h
        obtain rfl := fgt_s ht6
        clear ht6
        replace h := bnd h
        obtain ⟨o4, h4, c4⟩ := h
        refine cutM_i (fun s w => ∃ (t7 : Int), t7 = o4 ∧ s = (t7, ()) ∧ Ho w0 w (L)) (fun J4 hJ4 => ?_) ?_
        · have h := h4
          clear h4
          refine cond_s h ?_ ?_ <;> clear h <;> intro hc h
          · obtain rfl := some_inj h
            exact hJ4 _ _ ⟨_, rfl, rfl, hS⟩
          · obtain rfl := some_inj h
            exact hJ4 _ _ ⟨_, rfl, rfl, hS⟩
        · clear h4 hS
          rintro s w ⟨t7, rfl, rfl, hS⟩
          have h := c4
          clear c4
          try dsimp only
          obtain rfl := some_inj h
          exact hJ2 _ _ ⟨_, rfl, rfl, hS⟩
    · clear h2 hS
      rintro s w ⟨t4, rfl, rfl, hS⟩
      have h := c2
      clear c2
      try dsimp only
      obtain rfl := some_inj h
      exact hJ1 _ _ ⟨_, rfl, rfl, hS⟩
  · clear h1 hS
    rintro s w ⟨t2, rfl, rfl, hS⟩
    have h := c1
    clear c1
    try dsimp only
    replace h := bnd h
    obtain ⟨t8, ht8, h⟩ := h
    refine wk_math_Float64frombits H hS  ht8 ?_; clear hS ht8; rintro z5 w rfl hS
    refine ⟨_, rfl, ?_⟩
    have h := some_inj h
    cases h
    exact hK _ _ rfl hS

theorem wk_round_settle {N : Nums} {P : Program} (H : AllOk N P) {w0 w : World} {L : List It} {q0 : Nat} {q1 : Int} {q2 : Int} {u0 : Nat} (hS : Ho w0 w L)  (hx : T_round_settle (nf q0) q1 q2 = some u0) {K : Value → World → Prop} (hK : ∀ (z0 : Nat) (w1 : World), nf z0 = u0 → Ho w0 w1 (L) → K (.float .f64 z0) w1) : CallsX P N.f_round_settle #[.float .f64 q0, .int .i64 q1, .int .i8 q2] w K := by
  refine H.round_settle q0 q1 q2 w _ ?_
  unfold S_round_settle
  unfold T_round_settle at hx
  have h := hx
  clear hx
  try dsimp only
  replace h := bnd h
  obtain ⟨o1, h1, c1⟩ := h
  refine cutM_i (fun s w => ∃ (t1 : Int), t1 = o1 ∧ s = (t1, ()) ∧ Ho w0 w (L)) (fun J1 hJ1 => ?_) ?_
  · have h := h1
    clear h1
    refine cond_s h ?_ ?_ <;> clear h <;> intro hc h
    · replace h := bnd h
      obtain ⟨t2, ht2, h⟩ := h
      refine wk_math_Signbit H hS  ht2 ?_; clear hS ht2; rintro w hS
      refine ⟨_, rfl, ?_⟩
      replace h := bnd h
      obtain ⟨o2, h2, c2⟩ := h
      refine cutM_i (fun s w => ∃ (t3 : Int), t3 = o2 ∧ s = (t3, ()) ∧ Ho w0 w (L)) (fun J2 hJ2 => ?_) ?_
      · have h := h2
        clear h2
        refine cond_s h ?_ ?_ <;> clear h <;> intro hc h
        · obtain rfl := some_inj h
          exact hJ2 _ _ ⟨_, rfl, rfl, hS⟩
        · obtain rfl := some_inj h
          exact hJ2 _ _ ⟨_, rfl, rfl, hS⟩
      · clear h2 hS
        rintro s w ⟨t3, rfl, rfl, hS⟩
        have h := c2
        clear c2
        try dsimp only
        obtain rfl := some_inj h
        exact hJ1 _ _ ⟨_, rfl, rfl, hS⟩
    · obtain rfl := some_inj h
      exact hJ1 _ _ ⟨_, rfl, rfl, hS⟩
  · clear h1 hS
    rintro s w ⟨t1, rfl, rfl, hS⟩
    have h := c1
    clear c1
    try dsimp only
    replace h := bnd h
    obtain ⟨t4, ht4, h⟩ := h
    refine wk_math_IsInf H hS  ht4 ?_; clear hS ht4; rintro w hS
    refine ⟨_, rfl, ?_⟩
    refine cond_s h ?_ ?_ <;> clear h <;> intro hc h
    · replace h := bnd h
      obtain ⟨t5, ht5, h⟩ := h
      obtain rfl := fgt_s ht5
      clear ht5
      refine cond_s h ?_ ?_ <;> clear h <;> intro hc h
      · refine cond_s h ?_ ?_ <;> clear h <;> intro hc h
        · replace h := bnd h
          obtain ⟨t6, ht6, h⟩ := h
          obtain rfl := flt_s ht6
          clear ht6
          refine cond_s h ?_ ?_ <;> clear h <;> intro hc h
          · refine cond_s h ?_ ?_ <;> clear h <;> intro hc h
            · replace h := bnd h
              obtain ⟨t7, ht7, h⟩ := h
              refine wk_math_Copysign H hS  ht7 ?_; clear hS ht7; rintro z3 w rfl hS
              refine ⟨_, rfl, ?_⟩
              have h := some_inj h
              cases h
              exact hK _ _ rfl hS
            · have h := some_inj h
              cases h
              exact hK _ _ rfl hS
          · have h := some_inj h
            cases h
            exact hK _ _ rfl hS
        · replace h := bnd h
          obtain ⟨t8, ht8, h⟩ := h
          refine wk_math_Copysign H hS  ht8 ?_; clear hS ht8; rintro z4 w rfl hS
          refine ⟨_, rfl, ?_⟩
          have h := some_inj h
          cases h
          exact hK _ _ rfl hS
      · replace h := bnd h
        obtain ⟨t9, ht9, h⟩ := h
        obtain rfl := flt_s ht9
        clear ht9
        refine cond_s h ?_ ?_ <;> clear h <;> intro hc h
        · refine cond_s h ?_ ?_ <;> clear h <;> intro hc h
          · replace h := bnd h
            obtain ⟨t10, ht10, h⟩ := h
            refine wk_math_Copysign H hS  ht10 ?_; clear hS ht10; rintro z5 w rfl hS
            refine ⟨_, rfl, ?_⟩
            have h := some_inj h
            cases h
            exact hK _ _ rfl hS
          · have h := some_inj h
            cases h
            exact hK _ _ rfl hS
        · have h := some_inj h
          cases h
          exact hK _ _ rfl hS
    · refine cond_s h ?_ ?_ <;> clear h <;> intro hc h
      · refine cond_s h ?_ ?_ <;> clear h <;> intro hc h
        · refine cond_s h ?_ ?_ <;> clear h <;> intro hc h
          · refine cond_s h ?_ ?_ <;> clear h <;> intro hc h
            · replace h := bnd h
              obtain ⟨t11, ht11, h⟩ := h
              refine wk_round_step H hS  ht11 ?_; clear hS ht11; rintro z6 w rfl hS
              refine ⟨_, rfl, ?_⟩
              have h := some_inj h
              cases h
              exact hK _ _ rfl hS
            · have h := some_inj h
              cases h
              exact hK _ _ rfl hS
          · have h := some_inj h
            cases h
            exact hK _ _ rfl hS
        · replace h := bnd h
          obtain ⟨t12, ht12, h⟩ := h
          refine wk_round_step H hS  ht12 ?_; clear hS ht12; rintro z7 w rfl hS
          refine ⟨_, rfl, ?_⟩
          have h := some_inj h
          cases h
          exact hK _ _ rfl hS
      · refine cond_s h ?_ ?_ <;> clear h <;> intro hc h
        · refine cond_s h ?_ ?_ <;> clear h <;> intro hc h
          · replace h := bnd h
            obtain ⟨t13, ht13, h⟩ := h
            refine wk_round_step H hS  ht13 ?_; clear hS ht13; rintro z8 w rfl hS
            refine ⟨_, rfl, ?_⟩
            have h := some_inj h
            cases h
            exact hK _ _ rfl hS
          · have h := some_inj h
            cases h
            exact hK _ _ rfl hS
        · have h := some_inj h
          cases h
          exact hK _ _ rfl hS

theorem wk_round_sign {N : Nums} {P : Program} (H : AllOk N P) {w0 w : World} {L : List It} {q0 : Nat} {u0 : Int} (hS : Ho w0 w L)  (hx : T_round_sign (nf q0) = some u0) {K : Value → World → Prop} (hK : ∀  (w1 : World), Ho w0 w1 (L) → K (.int .i64 u0) w1) : CallsX P N.f_round_sign #[.float .f64 q0] w K := by
  refine H.round_sign q0 w _ ?_
  unfold S_round_sign
  unfold T_round_sign at hx
  have h := hx
  clear hx
  try dsimp only
  replace h := bnd h
  obtain ⟨t1, ht1, h⟩ := h
  obtain rfl := fgt_s ht1
  clear ht1
  refine cond_s h ?_ ?_ <;> clear h <;> intro hc h
  · have h := some_inj h
    cases h
    exact hK _ hS
  · replace h := bnd h
    obtain ⟨t2, ht2, h⟩ := h
    obtain rfl := flt_s ht2
    clear ht2
    refine cond_s h ?_ ?_ <;> clear h <;> intro hc h
    · have h := some_inj h
      cases h
      exact hK _ hS
    · have h := some_inj h
      cases h
      exact hK _ hS

theorem wk_round_Add {N : Nums} {P : Program} (H : AllOk N P) {w0 w : World} {L : List It} {q0 : Nat} {q1 : Nat} {q2 : Int} {u0 : Nat} (hS : Ho w0 w L)  (hx : T_round_Add (nf q0) (nf q1) q2 = some u0) {K : Value → World → Prop} (hK : ∀ (z0 : Nat) (w1 : World), nf z0 = u0 → Ho w0 w1 (L) → K (.float .f64 z0) w1) : CallsX P N.f_round_Add #[.float .f64 q0, .float .f64 q1, .int .i8 q2] w K := by
  refine H.round_Add q0 q1 q2 w _ ?_
  unfold S_round_Add
  unfold T_round_Add at hx
  have h := hx
  clear hx
  try dsimp only
  replace h := bnd h
  obtain ⟨t1, ht1, h⟩ := h
  refine wk_round_way H hS  ht1 ?_; clear hS ht1; rintro w hS
  refine ⟨_, rfl, ?_⟩
  replace h := bnd h
  obtain ⟨t2, ht2, h⟩ := h
  refine fadd_s ht2 hS ?_; clear hS ht2; rintro z1 w rfl hS
  replace h := bnd h
  obtain ⟨t3, ht3, h⟩ := h
  obtain rfl : (List.map nf ([q0, q1] : List Nat)) = t3 := some_inj ht3
  clear ht3
  refine lit_s (ks := [q0, q1]) (enc := (Value.float .f64)) (m := 2) hS rfl rfl ?_; clear hS; intro r2 w hS
  replace h := bnd h
  obtain ⟨t4, ht4, h⟩ := h
  refine wk_round_finite H hS (Ent.sl mp0) ht4 ?_; clear hS ht4; rintro w hS
  refine ⟨_, rfl, ?_⟩
  refine cond_s h ?_ ?_ <;> clear h <;> intro hc h
  · have h := some_inj h
    cases h
    exact hK _ _ rfl (hS.pick (A := [_]) [] rfl)
  · replace h := bnd h
    obtain ⟨o3, h3, c3⟩ := h
    refine cutM_i (fun s w => ∃ (t5 : Bool), t5 = o3 ∧ s = (t5, ()) ∧ Ho w0 w (L)) (fun J3 hJ3 => ?_) ?_
    · have h := h3
      clear h3
      replace h := bnd h
      obtain ⟨t6, ht6, h⟩ := h
      obtain rfl := feq_s ht6
      clear ht6
      refine cond_s h ?_ ?_ <;> clear h <;> intro hc h
      · replace h := bnd h
        obtain ⟨t7, ht7, h⟩ := h
        obtain rfl := fne_s ht7
        clear ht7
        refine cond_s h ?_ ?_ <;> clear h <;> intro hc h
        · replace h := bnd h
          obtain ⟨t8, ht8, h⟩ := h
          obtain rfl := feq_s ht8
          clear ht8
          refine cond_s h ?_ ?_ <;> clear h <;> intro hc h
          · replace h := bnd h
            obtain ⟨t9, ht9, h⟩ := h
            refine wk_math_Signbit H hS  ht9 ?_; clear hS ht9; rintro w hS
            refine ⟨_, rfl, ?_⟩
            replace h := bnd h
            obtain ⟨t10, ht10, h⟩ := h
            refine wk_math_Signbit H hS  ht10 ?_; clear hS ht10; rintro w hS
            refine ⟨_, rfl, ?_⟩
            obtain rfl := some_inj h
            exact hJ3 _ _ ⟨_, rfl, rfl, (hS.pick (A := [_]) [] rfl)⟩
          · obtain rfl := some_inj h
            exact hJ3 _ _ ⟨_, rfl, rfl, (hS.pick (A := [_]) [] rfl)⟩
        · obtain rfl := some_inj h
          exact hJ3 _ _ ⟨_, rfl, rfl, (hS.pick (A := [_]) [] rfl)⟩
      · replace h := bnd h
        obtain ⟨t11, ht11, h⟩ := h
        obtain rfl := feq_s ht11
        clear ht11
        refine cond_s h ?_ ?_ <;> clear h <;> intro hc h
        · replace h := bnd h
          obtain ⟨t12, ht12, h⟩ := h
          refine wk_math_Signbit H hS  ht12 ?_; clear hS ht12; rintro w hS
          refine ⟨_, rfl, ?_⟩
          replace h := bnd h
          obtain ⟨t13, ht13, h⟩ := h
          refine wk_math_Signbit H hS  ht13 ?_; clear hS ht13; rintro w hS
          refine ⟨_, rfl, ?_⟩
          obtain rfl := some_inj h
          exact hJ3 _ _ ⟨_, rfl, rfl, (hS.pick (A := [_]) [] rfl)⟩
        · obtain rfl := some_inj h
          exact hJ3 _ _ ⟨_, rfl, rfl, (hS.pick (A := [_]) [] rfl)⟩
    · clear h3 hS
      rintro s w ⟨t5, rfl, rfl, hS⟩
      have h := c3
      clear c3
      try dsimp only
      refine cond_s h ?_ ?_ <;> clear h <;> intro hc h
      · replace h := bnd h
        obtain ⟨t14, ht14, h⟩ := h
        refine wk_round_none H hS  ht14 ?_; clear hS ht14; rintro z4 w rfl hS
        refine ⟨_, rfl, ?_⟩
        have h := some_inj h
        cases h
        exact hK _ _ rfl hS
      · replace h := bnd h
        obtain ⟨t15, ht15, h⟩ := h
        obtain rfl := feq_s ht15
        clear ht15
        refine cond_s h ?_ ?_ <;> clear h <;> intro hc h
        · have h := some_inj h
          cases h
          exact hK _ _ rfl hS
        · replace h := bnd h
          obtain ⟨t16, ht16, h⟩ := h
          refine wk_math_IsInf H hS  ht16 ?_; clear hS ht16; rintro w hS
          refine ⟨_, rfl, ?_⟩
          refine cond_s h ?_ ?_ <;> clear h <;> intro hc h
          · replace h := bnd h
            obtain ⟨t17, ht17, h⟩ := h
            refine wk_round_settle H hS  ht17 ?_; clear hS ht17; rintro z5 w rfl hS
            refine ⟨_, rfl, ?_⟩
            have h := some_inj h
            cases h
            exact hK _ _ rfl hS
          · replace h := bnd h
            obtain ⟨t18, ht18, h⟩ := h
            refine wk_math_Abs H hS  ht18 ?_; clear hS ht18; rintro z6 w rfl hS
            refine ⟨_, rfl, ?_⟩
            replace h := bnd h
            obtain ⟨t19, ht19, h⟩ := h
            refine wk_math_Abs H hS  ht19 ?_; clear hS ht19; rintro z7 w rfl hS
            refine ⟨_, rfl, ?_⟩
            replace h := bnd h
            obtain ⟨t20, ht20, h⟩ := h
            obtain rfl := flt_s ht20
            clear ht20
            replace h := bnd h
            obtain ⟨o10, h10, c10⟩ := h
            refine cutM_i (fun s w => ∃ (z8 : Nat) (z9 : Nat), ((nf z8), (nf z9)) = o10 ∧ s = (z8, z9, ()) ∧ Ho w0 w (L)) (fun J10 hJ10 => ?_) ?_
            · have h := h10
              clear h10
              refine cond_s h ?_ ?_ <;> clear h <;> intro hc h
              · obtain rfl := some_inj h
                exact hJ10 _ _ ⟨_, _, rfl, rfl, hS⟩
              · obtain rfl := some_inj h
                exact hJ10 _ _ ⟨_, _, rfl, rfl, hS⟩
            · clear h10 hS
              rintro s w ⟨z8, z9, rfl, rfl, hS⟩
              have h := c10
              clear c10
              try dsimp only
              replace h := bnd h
              obtain ⟨t23, ht23, h⟩ := h
              refine fsub_s ht23 hS ?_; clear hS ht23; rintro z11 w rfl hS
              replace h := bnd h
              obtain ⟨t24, ht24, h⟩ := h
              refine fsub_s ht24 hS ?_; clear hS ht24; rintro z12 w rfl hS
              replace h := bnd h
              obtain ⟨t25, ht25, h⟩ := h
              refine wk_round_sign H hS  ht25 ?_; clear hS ht25; rintro w hS
              refine ⟨_, rfl, ?_⟩
              replace h := bnd h
              obtain ⟨t26, ht26, h⟩ := h
              refine wk_round_settle H hS  ht26 ?_; clear hS ht26; rintro z13 w rfl hS
              refine ⟨_, rfl, ?_⟩
              have h := some_inj h
              cases h
              exact hK _ _ rfl hS

theorem wk_vector_Norm {N : Nums} {P : Program} (H : AllOk N P) {w0 w : World} {L : List It} {q0 : Option Addr} {q0l q0c : Nat} {ws0 : List Nat} {u0 : Nat} (hS : Ho w0 w L) (hq0 : Ent L (rdA (List.map (Value.float .f64) ws0) q0 q0l q0c)) (hx : T_vector_Norm (List.map nf ws0) = some u0) {K : Value → World → Prop} (hK : ∀ (z0 : Nat) (w1 : World), nf z0 = u0 → Ho w0 w1 (L) → K (.float .f64 z0) w1) : CallsX P N.f_vector_Norm #[.slice q0 q0l q0c] w K := by
  refine H.vector_Norm q0 q0l q0c w _ ?_
  unfold S_vector_Norm
  unfold T_vector_Norm at hx
  have h := hx
  clear hx
  try dsimp only
  replace h := bnd h
  obtain ⟨t1, ht1, h⟩ := h
  obtain rfl := lenF ht1 (hq0.now (fun _ h => h) hS)
  clear ht1
  replace h := bnd h
  obtain ⟨o2, h2, c2⟩ := h
  refine cutM_i (fun s w => ∃ (z1 : Nat), (nf z1) = o2 ∧ s = (z1, ()) ∧ Ho w0 w (L)) (fun J2 hJ2 => ?_) ?_
  · have h := h2
    clear h2
    refine iter_sim (fun s w t => ∃ (z3 : Nat) (t4 : Int), ((nf z3), t4) = t ∧ s = (z3, t4, ()) ∧ Ho w0 w (L)) ?_ h ⟨_, _, rfl, rfl, hS⟩
    clear h hS
    rintro s w t X q ⟨z3, t4, rfl, rfl, hS⟩ h hX hO
    unfold T_vector_Norm_b2 at h
    try dsimp only
    refine cond_s h ?_ ?_ <;> clear h <;> intro hc h
    · replace h := bnd h
      obtain ⟨t5, ht5, h⟩ := h
      obtain ⟨z4, rfl, q5x, q5l, q5r⟩ := atF ht5
      clear ht5
      refine idx_s (hq0.now (fun _ h => h) hS) q5x q5l q5r ?_; intro b6 hb6
      refine ⟨_, rd_get (hq0.now (fun _ h => h) hS) hb6 q5x, ?_⟩
      replace h := bnd h
      obtain ⟨t6, ht6, h⟩ := h
      refine wk_math_Abs H hS  ht6 ?_; clear hS ht6; rintro z7 w rfl hS
      refine ⟨_, rfl, ?_⟩
      replace h := bnd h
      obtain ⟨t7, ht7, h⟩ := h
      refine wk_round_Add H hS  ht7 ?_; clear hS ht7; rintro z8 w rfl hS
      refine ⟨_, rfl, ?_⟩
      obtain rfl := some_inj h
      exact hX _ rfl _ _ ⟨_, _, rfl, rfl, hS⟩
    · obtain rfl := some_inj h
      have h := congrArg some (hO _ rfl)
      obtain rfl := some_inj h
      exact hJ2 _ _ ⟨_, rfl, rfl, hS⟩
  · clear h2 hS
    rintro s w ⟨z1, rfl, rfl, hS⟩
    have h := c2
    clear c2
    try dsimp only
    have h := some_inj h
    cases h
    exact hK _ _ rfl hS

theorem wk_matrix_Norm {N : Nums} {P : Program} (H : AllOk N P) {w0 w : World} {L : List It} {q0_0 : Int} {q0_1 : Int} {q0_2 : Option Addr} {q0_2l q0_2c : Nat} {ws0_2 : List Nat} {u0 : Nat} {u1 : Int} (hS : Ho w0 w L) (hq0_2 : Ent L (rdA (List.map (Value.float .f64) ws0_2) q0_2 q0_2l q0_2c)) (hx : T_matrix_Norm q0_0 q0_1 (List.map nf ws0_2) = some (u0, u1)) {K : Value → World → Prop} (hK : ∀ (z0 : Nat) (w1 : World), nf z0 = u0 → Ho w0 w1 (L) → K (.tuple #[.float .f64 z0, .int .i64 u1]) w1) : CallsX P N.f_matrix_Norm #[.agg #[.int .i64 q0_0, .int .i64 q0_1, .slice q0_2 q0_2l q0_2c]] w K := by
  refine H.matrix_Norm q0_0 q0_1 q0_2 q0_2l q0_2c w _ ?_
  unfold S_matrix_Norm
  unfold T_matrix_Norm at hx
  have h := hx
  clear hx
  try dsimp only
  refine newM_s hS ?_; clear hS; intro r1 w hS
  refine ⟨_, (hS.cel mp0 rfl), ?_⟩
  refine ⟨_, (hS.cel mp0 rfl), ?_⟩
  refine ⟨_, _, _, (hS.cel mp0 rfl), ?_⟩
  replace h := bnd h
  obtain ⟨t1, ht1, h⟩ := h
  refine wk_matrix_Right H hS (hq0_2.mono tl1) ht1 ?_; clear hS ht1; rintro w hS
  refine ⟨_, rfl, ?_⟩
  refine cond_s h ?_ ?_ <;> clear h <;> intro hc h
  · have h := some_inj h
    cases h
    exact hK _ _ rfl (hS.pick (A := [_]) [] rfl)
  · refine ⟨_, _, _, (hS.cel mp0 rfl), ?_⟩
    replace h := bnd h
    obtain ⟨t2, ht2, h⟩ := h
    refine wk_slices_ContainsFunc___float64_float64 H hS (hq0_2.mono tl1) (by intro v0 w L1 r1 K hL hx hS hK; exact wk_matrix_Norm_1 H hS  hx hK) ht2 ?_; clear hS ht2; rintro w hS
    refine ⟨_, rfl, ?_⟩
    refine cond_s h ?_ ?_ <;> clear h <;> intro hc h
    · have h := some_inj h
      cases h
      exact hK _ _ rfl (hS.pick (A := [_]) [] rfl)
    · refine ⟨_, (hS.cel mp0 rfl), ?_⟩
      replace h := bnd h
      obtain ⟨o3, h3, c3⟩ := h
      refine cutM_i (fun s w => ∃ (z2 : Nat), (nf z2) = o3 ∧ s = (z2, ()) ∧ Ho w0 w (L)) (fun J3 hJ3 => ?_) ?_
      · have h := h3
        clear h3
        refine iter_sim (fun s w t => ∃ (z4 : Nat) (t5 : Int), ((nf z4), t5) = t ∧ s = (z4, t5, ()) ∧ Ho w0 w ((cl r1 [.int .i64 q0_0, .int .i64 q0_1, .slice q0_2 q0_2l q0_2c] N.t_Matrix) :: L)) ?_ h ⟨_, _, rfl, rfl, hS⟩
        clear h hS
        rintro s w t X q ⟨z4, t5, rfl, rfl, hS⟩ h hX hO
        unfold T_matrix_Norm_b2 at h
        try dsimp only
        refine cond_s h ?_ ?_ <;> clear h <;> intro hc h
        · refine ⟨_, _, _, (hS.cel mp0 rfl), ?_⟩
          refine ⟨_, (hS.cel mp0 rfl), ?_⟩
          refine ⟨_, (hS.cel mp0 rfl), ?_⟩
          replace h := bnd h
          obtain ⟨t6, ht6, h⟩ := h
          obtain ⟨rfl, q50, q51, q52⟩ := subF ht6
          clear ht6
          have q53 := ((hq0_2.mono tl1).now (fun _ h => h) hS).hiCap q52
          refine ⟨Int.le_trans q50 q51, q53, q50, q51, ?_⟩
          replace h := bnd h
          obtain ⟨t7, ht7, h⟩ := h
          refine wk_vector_Norm H hS (Ent.part (hq0_2.mono tl1) q50 q51 q52) ht7 ?_; clear hS ht7; rintro z6 w rfl hS
          refine ⟨_, rfl, ?_⟩
          replace h := bnd h
          obtain ⟨t8, ht8, h⟩ := h
          refine fmx_s ht8 hS ?_; clear hS ht8; rintro z7 w rfl hS
          obtain rfl := some_inj h
          exact hX _ rfl _ _ ⟨_, _, rfl, rfl, hS⟩
        · obtain rfl := some_inj h
          have h := congrArg some (hO _ rfl)
          obtain rfl := some_inj h
          exact hJ3 _ _ ⟨_, rfl, rfl, (hS.pick (A := [_]) [] rfl)⟩
      · clear h3 hS
        rintro s w ⟨z2, rfl, rfl, hS⟩
        have h := c3
        clear c3
        try dsimp only
        have h := some_inj h
        cases h
        exact hK _ _ rfl hS

theorem wk_math_NaN {N : Nums} {P : Program} (H : AllOk N P) {w0 w : World} {L : List It}  {u0 : Nat} (hS : Ho w0 w L)  (hx : T_math_NaN  = some u0) {K : Value → World → Prop} (hK : ∀ (z0 : Nat) (w1 : World), nf z0 = u0 → Ho w0 w1 (L) → K (.float .f64 z0) w1) : CallsX P N.f_math_NaN #[] w K := by
  refine H.math_NaN  w _ ?_
  unfold S_math_NaN
  unfold T_math_NaN at hx
  have h := hx
  clear hx
  try dsimp only
  replace h := bnd h
  obtain ⟨t1, ht1, h⟩ := h
  refine wk_math_Float64frombits H hS  ht1 ?_; clear hS ht1; rintro z1 w rfl hS
  refine ⟨_, rfl, ?_⟩
  have h := some_inj h
  cases h
  exact hK _ _ rfl hS

theorem wk_matrix_Transpose_1 {N : Nums} {P : Program} (H : AllOk N P) {w0 w : World} {L : List It} {q0 : Int} {q1 : Int} {r_2 : Nat} {q2_0 : Int} {q2_1 : Int} {q2_2 : Option Addr} {q2_2l q2_2c : Nat} {ws2_2 : List Nat} {u0 : Nat} (hS : Ho w0 w L) (eq2 : Ent L (cl r_2 [.int .i64 q2_0, .int .i64 q2_1, .slice q2_2 q2_2l q2_2c] N.t_Matrix).A) (hq2_2 : Ent L (rdA (List.map (Value.float .f64) ws2_2) q2_2 q2_2l q2_2c)) (hx : T_matrix_Transpose_1 q0 q1 q2_0 q2_1 (List.map nf ws2_2) = some u0) {K : Value → World → Prop} (hK : ∀ (z0 : Nat) (w1 : World), nf z0 = u0 → Ho w0 w1 (L) → K (.float .f64 z0) w1) : CallsX P N.f_matrix_Transpose_1 #[.int .i64 q0, .int .i64 q1, .pointer (some ⟨r_2, 0, none⟩)] w K := by
  refine H.matrix_Transpose_1 q0 q1 (some ⟨r_2, 0, none⟩) w _ ?_
  unfold S_matrix_Transpose_1
  unfold T_matrix_Transpose_1 at hx
  have h := hx
  clear hx
  try dsimp only
  refine optM_s ?_
  refine ⟨_, _, _, (eq2.cel (fun _ h => h) hS rfl), ?_⟩
  refine optM_s ?_
  refine ⟨_, (eq2.cel (fun _ h => h) hS rfl), ?_⟩
  replace h := bnd h
  obtain ⟨t1, ht1, h⟩ := h
  obtain ⟨z1, rfl, q2x, q2l, q2r⟩ := atF ht1
  clear ht1
  refine idx_s (hq2_2.now (fun _ h => h) hS) q2x q2l q2r ?_; intro b3 hb3
  refine ⟨_, rd_get (hq2_2.now (fun _ h => h) hS) hb3 q2x, ?_⟩
  have h := some_inj h
  cases h
  exact hK _ _ rfl hS

theorem wk_matrix_Transpose {N : Nums} {P : Program} (H : AllOk N P) {w0 w : World} {L : List It} {q0_0 : Int} {q0_1 : Int} {q0_2 : Option Addr} {q0_2l q0_2c : Nat} {ws0_2 : List Nat} {u0 : Int} {u1 : Int} {u2 : List Nat} {u3 : Int} (hS : Ho w0 w L) (hq0_2 : Ent L (rdA (List.map (Value.float .f64) ws0_2) q0_2 q0_2l q0_2c)) (hx : T_matrix_Transpose q0_0 q0_1 (List.map nf ws0_2) = some (u0, u1, u2, u3)) {K : Value → World → Prop} (hK : ∀ (a2 : Option Addr) (n2 c2 : Nat) (rws2 : List Nat) (w1 : World), List.map nf rws2 = u2 → Ho w0 w1 ((sl a2 n2 c2 (List.map (Value.float .f64) rws2) N.t_float64) :: L) → K (.tuple #[.agg #[.int .i64 u0, .int .i64 u1, .slice a2 n2 c2], .int .i64 u3]) w1) : CallsX P N.f_matrix_Transpose #[.agg #[.int .i64 q0_0, .int .i64 q0_1, .slice q0_2 q0_2l q0_2c]] w K := by
  refine H.matrix_Transpose q0_0 q0_1 q0_2 q0_2l q0_2c w _ ?_
  unfold S_matrix_Transpose
  unfold T_matrix_Transpose at hx
  have h := hx
  clear hx
  try dsimp only
  refine newM_s hS ?_; clear hS; intro r1 w hS
  refine newM_s hS ?_; clear hS; intro r2 w hS
  refine ⟨_, (hS.cel mp1 rfl), ?_⟩
  refine ⟨_, (hS.cel mp1 rfl), ?_⟩
  refine ⟨_, _, _, (hS.cel mp1 rfl), ?_⟩
  replace h := bnd h
  obtain ⟨t1, ht1, h⟩ := h
  refine wk_matrix_Right H hS (hq0_2.mono tl2) ht1 ?_; clear hS ht1; rintro w hS
  refine ⟨_, rfl, ?_⟩
  refine cond_s h ?_ ?_ <;> clear h <;> intro hc h
  · refine stc_s hS rfl rfl ?_; clear hS; intro w hS
    refine stc_s hS rfl rfl ?_; clear hS; intro w hS
    refine stc_s hS rfl rfl ?_; clear hS; intro w hS
    refine ⟨_, (hS.cel mp0 rfl), ?_⟩
    refine ⟨_, (hS.cel mp0 rfl), ?_⟩
    refine ⟨_, _, _, (hS.cel mp0 rfl), ?_⟩
    replace hS := hS.none (α := Nat) (enc := (Value.float .f64)) (t := N.t_float64)
    have h := some_inj h
    cases h
    exact hK _ _ _ _ _ rfl (hS.pick (A := [_, _, _]) [0] rfl)
  · refine ⟨_, (hS.cel mp1 rfl), ?_⟩
    refine ⟨_, (hS.cel mp1 rfl), ?_⟩
    replace h := bnd h
    obtain ⟨⟨t2, t3, t4⟩, ho2, h⟩ := h
    refine wk_matrix_laid H hS (by intro v0 v1 w L1 r1 K hL hx hS hK; exact wk_matrix_Transpose_1 H hS ((Ent.of mp1).mono hL) ((hq0_2.mono tl2).mono hL) hx hK) ho2 ?_; clear hS ho2; rintro a3 m3 c3 ws3 w rfl hS
    refine ⟨_, _, _, _, _, rfl, ?_⟩
    replace hS := ro1 hS
    refine stc_s hS rfl rfl ?_; clear hS; intro w hS
    refine stc_s hS rfl rfl ?_; clear hS; intro w hS
    refine stc_s hS rfl rfl ?_; clear hS; intro w hS
    refine ⟨_, (hS.cel mp0 rfl), ?_⟩
    refine ⟨_, (hS.cel mp0 rfl), ?_⟩
    refine ⟨_, _, _, (hS.cel mp0 rfl), ?_⟩
    have h := some_inj h
    cases h
    exact hK _ _ _ _ _ rfl (hS.pick (A := [_, _, _]) [1] rfl)

theorem wk_vector_Same {N : Nums} {P : Program} (H : AllOk N P) {w0 w : World} {L : List It} {q0 : Option Addr} {q0l q0c : Nat} {ws0 : List Nat} {q1 : Option Addr} {q1l q1c : Nat} {ws1 : List Nat} {u0 : Bool} (hS : Ho w0 w L) (hq0 : Ent L (rdA (List.map (Value.float .f64) ws0) q0 q0l q0c)) (hq1 : Ent L (rdA (List.map (Value.float .f64) ws1) q1 q1l q1c)) (hx : T_vector_Same (List.map nf ws0) (List.map nf ws1) = some u0) {K : Value → World → Prop} (hK : ∀  (w1 : World), Ho w0 w1 (L) → K (.bool u0) w1) : CallsX P N.f_vector_Same #[.slice q0 q0l q0c, .slice q1 q1l q1c] w K := by
  unfold T_vector_Same at hx
  have hd : (List.map nf ws0).length ≤ 4294967296 := by
    rcases Nat.lt_or_ge 4294967296 (List.map nf ws0).length with h | h
    · rw [decide_eq_false (by omega)] at hx; cases hx
    · exact h
  rw [decide_eq_true hd] at hx
  have hx := some_inj hx
  subst hx
  have r0 := (hq0.now (fun _ h => h) hS).reals
  refine (vsame_c H r0 (hq1.now (fun _ h => h) hS).reals (by have := r0.len; simp at hd; omega)).mono ?_
  rintro _ w1 ⟨rfl, h1⟩
  exact hK _ (hS.next h1)

theorem wk_matrix_Same {N : Nums} {P : Program} (H : AllOk N P) {w0 w : World} {L : List It} {q0_0 : Int} {q0_1 : Int} {q0_2 : Option Addr} {q0_2l q0_2c : Nat} {ws0_2 : List Nat} {q1_0 : Int} {q1_1 : Int} {q1_2 : Option Addr} {q1_2l q1_2c : Nat} {ws1_2 : List Nat} {u0 : Bool} (hS : Ho w0 w L) (hq0_2 : Ent L (rdA (List.map (Value.float .f64) ws0_2) q0_2 q0_2l q0_2c)) (hq1_2 : Ent L (rdA (List.map (Value.float .f64) ws1_2) q1_2 q1_2l q1_2c)) (hx : T_matrix_Same q0_0 q0_1 (List.map nf ws0_2) q1_0 q1_1 (List.map nf ws1_2) = some u0) {K : Value → World → Prop} (hK : ∀  (w1 : World), Ho w0 w1 (L) → K (.bool u0) w1) : CallsX P N.f_matrix_Same #[.agg #[.int .i64 q0_0, .int .i64 q0_1, .slice q0_2 q0_2l q0_2c], .agg #[.int .i64 q1_0, .int .i64 q1_1, .slice q1_2 q1_2l q1_2c]] w K := by
  refine H.matrix_Same q0_0 q0_1 q0_2 q0_2l q0_2c q1_0 q1_1 q1_2 q1_2l q1_2c w _ ?_
  unfold S_matrix_Same
  unfold T_matrix_Same at hx
  have h := hx
  clear hx
  try dsimp only
  refine newM_s hS ?_; clear hS; intro r1 w hS
  refine newM_s hS ?_; clear hS; intro r2 w hS
  refine ⟨_, (hS.cel mp1 rfl), ?_⟩
  refine ⟨_, (hS.cel mp0 rfl), ?_⟩
  refine cond_s h ?_ ?_ <;> clear h <;> intro hc h
  · refine ⟨_, (hS.cel mp1 rfl), ?_⟩
    refine ⟨_, (hS.cel mp0 rfl), ?_⟩
    refine cond_s h ?_ ?_ <;> clear h <;> intro hc h
    · refine ⟨_, _, _, (hS.cel mp1 rfl), ?_⟩
      refine ⟨_, _, _, (hS.cel mp0 rfl), ?_⟩
      replace h := bnd h
      obtain ⟨t1, ht1, h⟩ := h
      refine wk_vector_Same H hS (hq0_2.mono tl2) (hq1_2.mono tl2) ht1 ?_; clear hS ht1; rintro w hS
      refine ⟨_, rfl, ?_⟩
      have h := some_inj h
      cases h
      exact hK _ (hS.pick (A := [_, _]) [] rfl)
    · have h := some_inj h
      cases h
      exact hK _ (hS.pick (A := [_, _]) [] rfl)
  · have h := some_inj h
    cases h
    exact hK _ (hS.pick (A := [_, _]) [] rfl)

theorem wk_matrix_Symmetric {N : Nums} {P : Program} (H : AllOk N P) {w0 w : World} {L : List It} {q0_0 : Int} {q0_1 : Int} {q0_2 : Option Addr} {q0_2l q0_2c : Nat} {ws0_2 : List Nat} {u0 : Bool} (hS : Ho w0 w L) (hq0_2 : Ent L (rdA (List.map (Value.float .f64) ws0_2) q0_2 q0_2l q0_2c)) (hx : T_matrix_Symmetric q0_0 q0_1 (List.map nf ws0_2) = some u0) {K : Value → World → Prop} (hK : ∀  (w1 : World), Ho w0 w1 (L) → K (.bool u0) w1) : CallsX P N.f_matrix_Symmetric #[.agg #[.int .i64 q0_0, .int .i64 q0_1, .slice q0_2 q0_2l q0_2c]] w K := by
  refine H.matrix_Symmetric q0_0 q0_1 q0_2 q0_2l q0_2c w _ ?_
  unfold S_matrix_Symmetric
  unfold T_matrix_Symmetric at hx
  have h := hx
  clear hx
  try dsimp only
  refine newM_s hS ?_; clear hS; intro r1 w hS
  refine ⟨_, (hS.cel mp0 rfl), ?_⟩
  refine ⟨_, (hS.cel mp0 rfl), ?_⟩
  refine ⟨_, _, _, (hS.cel mp0 rfl), ?_⟩
  replace h := bnd h
  obtain ⟨⟨t1, t2, t3, t4⟩, ho1, h⟩ := h
  refine wk_matrix_Transpose H hS (hq0_2.mono tl1) ho1 ?_; clear hS ho1; rintro a2 m2 c2 ws2 w rfl hS
  refine ⟨_, _, _, _, _, _, rfl, ?_⟩
  refine newM_s hS ?_; clear hS; intro r3 w hS
  refine stc_s hS rfl rfl ?_; clear hS; intro w hS
  refine stc_s hS rfl rfl ?_; clear hS; intro w hS
  refine stc_s hS rfl rfl ?_; clear hS; intro w hS
  refine cond_s h ?_ ?_ <;> clear h <;> intro hc h
  · refine ⟨_, (hS.cel mp0 rfl), ?_⟩
    refine ⟨_, (hS.cel mp0 rfl), ?_⟩
    refine ⟨_, _, _, (hS.cel mp0 rfl), ?_⟩
    refine ⟨_, (hS.cel mp2 rfl), ?_⟩
    refine ⟨_, (hS.cel mp2 rfl), ?_⟩
    refine ⟨_, _, _, (hS.cel mp2 rfl), ?_⟩
    replace h := bnd h
    obtain ⟨t5, ht5, h⟩ := h
    refine wk_matrix_Same H hS (Ent.sl mp1) (hq0_2.mono tl3) ht5 ?_; clear hS ht5; rintro w hS
    refine ⟨_, rfl, ?_⟩
    have h := some_inj h
    cases h
    exact hK _ (hS.pick (A := [_, _, _]) [] rfl)
  · have h := some_inj h
    cases h
    exact hK _ (hS.pick (A := [_, _, _]) [] rfl)

theorem wk_matrix_Apply {N : Nums} {P : Program} (H : AllOk N P) {w0 w : World} {L : List It} {q0_0 : Int} {q0_1 : Int} {q0_2 : Option Addr} {q0_2l q0_2c : Nat} {ws0_2 : List Nat} {q1 : Option Addr} {q1l q1c : Nat} {ws1 : List Nat} {u0 : List Nat} {u1 : Int} (hS : Ho w0 w L) (hq0_2 : Ent L (rdA (List.map (Value.float .f64) ws0_2) q0_2 q0_2l q0_2c)) (hq1 : Ent L (rdA (List.map (Value.float .f64) ws1) q1 q1l q1c)) (hx : T_matrix_Apply q0_0 q0_1 (List.map nf ws0_2) (List.map nf ws1) = some (u0, u1)) {K : Value → World → Prop} (hK : ∀ (a0 : Option Addr) (n0 c0 : Nat) (rws0 : List Nat) (w1 : World), List.map nf rws0 = u0 → Ho w0 w1 ((sl a0 n0 c0 (List.map (Value.float .f64) rws0) N.t_float64) :: L) → K (.tuple #[.slice a0 n0 c0, .int .i64 u1]) w1) : CallsX P N.f_matrix_Apply #[.agg #[.int .i64 q0_0, .int .i64 q0_1, .slice q0_2 q0_2l q0_2c], .slice q1 q1l q1c] w K := by
  refine H.matrix_Apply q0_0 q0_1 q0_2 q0_2l q0_2c q1 q1l q1c w _ ?_
  unfold S_matrix_Apply
  unfold T_matrix_Apply at hx
  have h := hx
  clear hx
  try dsimp only
  refine newM_s hS ?_; clear hS; intro r1 w hS
  refine ⟨_, (hS.cel mp0 rfl), ?_⟩
  refine ⟨_, (hS.cel mp0 rfl), ?_⟩
  refine ⟨_, _, _, (hS.cel mp0 rfl), ?_⟩
  replace h := bnd h
  obtain ⟨t1, ht1, h⟩ := h
  obtain rfl := lenF ht1 ((hq1.mono tl1).now (fun _ h => h) hS)
  clear ht1
  replace h := bnd h
  obtain ⟨⟨t2, t3, t4, t5⟩, ho2, h⟩ := h
  refine wk_matrix_Mul H hS (hq0_2.mono tl1) (hq1.mono tl1) ho2 ?_; clear hS ho2; rintro a2 m2 c2 ws2 w rfl hS
  refine ⟨_, _, _, _, _, _, rfl, ?_⟩
  refine newM_s hS ?_; clear hS; intro r3 w hS
  refine stc_s hS rfl rfl ?_; clear hS; intro w hS
  refine stc_s hS rfl rfl ?_; clear hS; intro w hS
  refine stc_s hS rfl rfl ?_; clear hS; intro w hS
  refine ⟨_, _, _, (hS.cel mp0 rfl), ?_⟩
  have h := some_inj h
  cases h
  exact hK _ _ _ _ _ rfl (hS.pick (A := [_, _, _]) [1] rfl)

theorem wk_girderlaw10_awake {N : Nums} {P : Program} (H : AllOk N P) {w0 w : World} {L : List It}  {u0 : Bool} (hS : Ho w0 w L)  (hx : T_girderlaw10_awake  = some u0) {K : Value → World → Prop} (hK : ∀  (w1 : World), Ho w0 w1 (L) → K (.bool u0) w1) : CallsX P N.f_girderlaw10_awake #[] w K := by
  refine H.girderlaw10_awake  w _ ?_
  unfold S_girderlaw10_awake
  unfold T_girderlaw10_awake at hx
  have h := hx
  clear hx
  try dsimp only
  replace h := bnd h
  obtain ⟨t1, ht1, h⟩ := h
  obtain rfl : (List.map nf ([4607182418800017408, 4611686018427387904, 4613937818241073152, 4616189618054758400] : List Nat)) = t1 := some_inj ht1
  clear ht1
  refine lit_s (ks := [4607182418800017408, 4611686018427387904, 4613937818241073152, 4616189618054758400]) (enc := (Value.float .f64)) (m := 4) hS rfl rfl ?_; clear hS; intro r1 w hS
  replace h := bnd h
  obtain ⟨⟨t2, t3, t4⟩, ho2, h⟩ := h
  refine wk_girderlaw10_of H hS (Ent.sl mp0) ho2 ?_; clear hS ho2; rintro w rfl hS
  refine ⟨_, _, _, _, _, rfl, ?_⟩
  replace h := bnd h
  obtain ⟨t5, ht5, h⟩ := h
  obtain rfl : (List.map nf ([4617315517961601024, 4618441417868443648, 4619567317775286272, 4620693217682128896] : List Nat)) = t5 := some_inj ht5
  clear ht5
  refine lit_s (ks := [4617315517961601024, 4618441417868443648, 4619567317775286272, 4620693217682128896]) (enc := (Value.float .f64)) (m := 4) hS rfl rfl ?_; clear hS; intro r3 w hS
  replace h := bnd h
  obtain ⟨⟨t6, t7, t8⟩, ho6, h⟩ := h
  refine wk_girderlaw10_of H hS (Ent.sl mp0) ho6 ?_; clear hS ho6; rintro w rfl hS
  refine ⟨_, _, _, _, _, rfl, ?_⟩
  replace h := bnd h
  obtain ⟨⟨t9, t10, t11, t12⟩, ho9, h⟩ := h
  refine wk_matrix_Mul H hS (Ent.sl mp1) (Ent.sl mp0) ho9 ?_; clear hS ho9; rintro a5 m5 c5 ws5 w rfl hS
  refine ⟨_, _, _, _, _, _, rfl, ?_⟩
  refine newM_s hS ?_; clear hS; intro r6 w hS
  refine stc_s hS rfl rfl ?_; clear hS; intro w hS
  refine stc_s hS rfl rfl ?_; clear hS; intro w hS
  refine stc_s hS rfl rfl ?_; clear hS; intro w hS
  replace h := bnd h
  obtain ⟨t13, ht13, h⟩ := h
  obtain rfl : (List.map nf ([4607182418800017408, 4611686018427387904, 4613937818241073152, 4616189618054758400] : List Nat)) = t13 := some_inj ht13
  clear ht13
  refine lit_s (ks := [4607182418800017408, 4611686018427387904, 4613937818241073152, 4616189618054758400]) (enc := (Value.float .f64)) (m := 4) hS rfl rfl ?_; clear hS; intro r7 w hS
  replace h := bnd h
  obtain ⟨⟨t14, t15, t16⟩, ho14, h⟩ := h
  refine wk_girderlaw10_of H hS (Ent.sl mp0) ho14 ?_; clear hS ho14; rintro w rfl hS
  refine ⟨_, _, _, _, _, rfl, ?_⟩
  replace h := bnd h
  obtain ⟨t17, ht17, h⟩ := h
  obtain rfl : (List.map nf ([4617315517961601024, 4618441417868443648] : List Nat)) = t17 := some_inj ht17
  clear ht17
  refine lit_s (ks := [4617315517961601024, 4618441417868443648]) (enc := (Value.float .f64)) (m := 2) hS rfl rfl ?_; clear hS; intro r9 w hS
  replace h := bnd h
  obtain ⟨⟨t18, t19⟩, ho18, h⟩ := h
  refine wk_matrix_Apply H hS (Ent.sl mp1) (Ent.sl mp0) ho18 ?_; clear hS ho18; rintro a10 m10 c10 ws10 w rfl hS
  refine ⟨_, _, _, _, rfl, ?_⟩
  refine ⟨_, (hS.cel mp3 rfl), ?_⟩
  refine ⟨_, (hS.cel mp3 rfl), ?_⟩
  refine ⟨_, _, _, (hS.cel mp3 rfl), ?_⟩
  refine drM_s hS ?_; clear hS; intro w hS
  replace h := bnd h
  obtain ⟨t20, ht20, h⟩ := h
  obtain rfl : (List.map nf ([4626041242239631360, 4626885667169763328, 4631248529308778496, 4632233691727265792] : List Nat)) = t20 := some_inj ht20
  clear ht20
  refine lit_s (ks := [4626041242239631360, 4626885667169763328, 4631248529308778496, 4632233691727265792]) (enc := (Value.float .f64)) (m := 4) hS rfl rfl ?_; clear hS; intro r11 w hS
  refine ⟨(hS.cel mp4 rfl), ?_⟩
  refine ⟨(hS.cel mp4 rfl), ?_⟩
  refine ⟨(hS.cel mp4 rfl), ?_⟩
  refine drM_s hS ?_; clear hS; intro w hS
  replace h := bnd h
  obtain ⟨⟨t21, t22, t23⟩, ho21, h⟩ := h
  refine wk_girderlaw10_of H hS (Ent.sl mp0) ho21 ?_; clear hS ho21; rintro w rfl hS
  refine ⟨_, _, _, _, _, rfl, ?_⟩
  refine ⟨(hS.cel mp4 rfl), ?_⟩
  refine ⟨(hS.cel mp4 rfl), ?_⟩
  refine ⟨(hS.cel mp4 rfl), ?_⟩
  refine drM_s hS ?_; clear hS; intro w hS
  replace h := bnd h
  obtain ⟨t24, ht24, h⟩ := h
  refine wk_girderlaw10_is H hS (Ent.sl mp5) (Ent.sl mp0) ht24 ?_; clear hS ht24; rintro w hS
  refine ⟨_, rfl, ?_⟩
  refine cond_s h ?_ ?_ <;> clear h <;> intro hc h
  · refine cond_s h ?_ ?_ <;> clear h <;> intro hc h
    · refine drM_s hS ?_; clear hS; intro w hS
      replace h := bnd h
      obtain ⟨t25, ht25, h⟩ := h
      obtain rfl : (List.map nf ([4625478292286210048, 4630685579355357184] : List Nat)) = t25 := some_inj ht25
      clear ht25
      refine lit_s (ks := [4625478292286210048, 4630685579355357184]) (enc := (Value.float .f64)) (m := 2) hS rfl rfl ?_; clear hS; intro r13 w hS
      refine drM_s hS ?_; clear hS; intro w hS
      replace h := bnd h
      obtain ⟨t26, ht26, h⟩ := h
      refine wk_girderkit_SameReals H hS (Ent.sl mp2) (Ent.sl mp0) ht26 ?_; clear hS ht26; rintro w hS
      refine ⟨_, rfl, ?_⟩
      refine drM_s hS ?_; clear hS; intro w hS
      have h := some_inj h
      cases h
      exact hK _ (hS.pick (A := [_, _, _, _, _, _, _, _, _]) [] rfl)
    · refine drM_s hS ?_; clear hS; intro w hS
      refine drM_s hS ?_; clear hS; intro w hS
      refine drM_s hS ?_; clear hS; intro w hS
      have h := some_inj h
      cases h
      exact hK _ (hS.pick (A := [_, _, _, _, _, _, _, _]) [] rfl)
  · refine drM_s hS ?_; clear hS; intro w hS
    refine drM_s hS ?_; clear hS; intro w hS
    refine drM_s hS ?_; clear hS; intro w hS
    have h := some_inj h
    cases h
    exact hK _ (hS.pick (A := [_, _, _, _, _, _, _, _]) [] rfl)

theorem wk_girderlaw10_MatrixNumbers {N : Nums} {P : Program} (H : AllOk N P) {w0 w : World} {L : List It}  {u0 : Bool} (hS : Ho w0 w L)  (hx : T_girderlaw10_MatrixNumbers  = some u0) {K : Value → World → Prop} (hK : ∀  (w1 : World), Ho w0 w1 (L) → K (.bool u0) w1) : CallsX P N.f_girderlaw10_MatrixNumbers #[] w K := by
  refine H.girderlaw10_MatrixNumbers  w _ ?_
  unfold S_girderlaw10_MatrixNumbers
  unfold T_girderlaw10_MatrixNumbers at hx
  have h := hx
  clear hx
  try dsimp only
  replace h := bnd h
  obtain ⟨⟨t1, t2, t3, t4⟩, ho1, h⟩ := h
  refine wk_matrix_Make H hS  ho1 ?_; clear hS ho1; rintro a1 m1 c1 ws1 w rfl hS
  refine ⟨_, _, _, _, _, _, rfl, ?_⟩
  refine newM_s hS ?_; clear hS; intro r2 w hS
  refine stc_s hS rfl rfl ?_; clear hS; intro w hS
  refine stc_s hS rfl rfl ?_; clear hS; intro w hS
  refine stc_s hS rfl rfl ?_; clear hS; intro w hS
  replace h := bnd h
  obtain ⟨⟨t5, t6, t7, t8⟩, ho5, h⟩ := h
  refine wk_matrix_Make H hS  ho5 ?_; clear hS ho5; rintro a3 m3 c3 ws3 w rfl hS
  refine ⟨_, _, _, _, _, _, rfl, ?_⟩
  refine newM_s hS ?_; clear hS; intro r4 w hS
  refine stc_s hS rfl rfl ?_; clear hS; intro w hS
  refine stc_s hS rfl rfl ?_; clear hS; intro w hS
  refine stc_s hS rfl rfl ?_; clear hS; intro w hS
  replace h := bnd h
  obtain ⟨⟨t9, t10, t11, t12⟩, ho9, h⟩ := h
  refine wk_matrix_Make H hS  ho9 ?_; clear hS ho9; rintro a5 m5 c5 ws5 w rfl hS
  refine ⟨_, _, _, _, _, _, rfl, ?_⟩
  refine newM_s hS ?_; clear hS; intro r6 w hS
  refine stc_s hS rfl rfl ?_; clear hS; intro w hS
  refine stc_s hS rfl rfl ?_; clear hS; intro w hS
  refine stc_s hS rfl rfl ?_; clear hS; intro w hS
  replace h := bnd h
  obtain ⟨⟨t13, t14, t15, t16⟩, ho13, h⟩ := h
  refine wk_matrix_Identity H hS  ho13 ?_; clear hS ho13; rintro a7 m7 c7 ws7 w rfl hS
  refine ⟨_, _, _, _, _, _, rfl, ?_⟩
  refine newM_s hS ?_; clear hS; intro r8 w hS
  refine stc_s hS rfl rfl ?_; clear hS; intro w hS
  refine stc_s hS rfl rfl ?_; clear hS; intro w hS
  refine stc_s hS rfl rfl ?_; clear hS; intro w hS
  replace h := bnd h
  obtain ⟨⟨t17, t18, t19, t20⟩, ho17, h⟩ := h
  refine wk_matrix_Make H hS  ho17 ?_; clear hS ho17; rintro a9 m9 c9 ws9 w rfl hS
  refine ⟨_, _, _, _, _, _, rfl, ?_⟩
  refine newM_s hS ?_; clear hS; intro r10 w hS
  refine stc_s hS rfl rfl ?_; clear hS; intro w hS
  refine stc_s hS rfl rfl ?_; clear hS; intro w hS
  refine stc_s hS rfl rfl ?_; clear hS; intro w hS
  replace h := bnd h
  obtain ⟨o11, h11, c11⟩ := h
  refine cutM_i (fun s w => ∃ (t21 : Bool), t21 = o11 ∧ s = (t21, ()) ∧ Ho w0 w (L)) (fun J11 hJ11 => ?_) ?_
  · have h := h11
    clear h11
    refine cond_s h ?_ ?_ <;> clear h <;> intro hc h
    · refine ⟨_, _, _, (hS.cel mp8 rfl), ?_⟩
      replace h := bnd h
      obtain ⟨t22, ht22, h⟩ := h
      obtain rfl := lenF ht22 ((Ent.sl mp9).now (fun _ h => h) hS)
      clear ht22
      refine cond_s h ?_ ?_ <;> clear h <;> intro hc h
      · refine ⟨_, (hS.cel mp6 rfl), ?_⟩
        refine ⟨_, (hS.cel mp6 rfl), ?_⟩
        refine ⟨_, _, _, (hS.cel mp6 rfl), ?_⟩
        refine drM_s hS ?_; clear hS; intro w hS
        replace h := bnd h
        obtain ⟨t23, ht23, h⟩ := h
        refine wk_girderlaw10_is H hS (Ent.sl mp7) (Ent.nil _) ht23 ?_; clear hS ht23; rintro w hS
        refine ⟨_, rfl, ?_⟩
        refine ⟨(hS.cel mp8 rfl), ?_⟩
        refine cond_s h ?_ ?_ <;> clear h <;> intro hc h
        · refine ⟨_, (hS.cel mp4 rfl), ?_⟩
          refine ⟨_, (hS.cel mp4 rfl), ?_⟩
          refine ⟨_, _, _, (hS.cel mp4 rfl), ?_⟩
          refine drM_s hS ?_; clear hS; intro w hS
          replace h := bnd h
          obtain ⟨t24, ht24, h⟩ := h
          refine wk_girderlaw10_is H hS (Ent.sl mp5) (Ent.nil _) ht24 ?_; clear hS ht24; rintro w hS
          refine ⟨_, rfl, ?_⟩
          refine ⟨(hS.cel mp8 rfl), ?_⟩
          refine cond_s h ?_ ?_ <;> clear h <;> intro hc h
          · refine ⟨_, (hS.cel mp2 rfl), ?_⟩
            refine ⟨_, (hS.cel mp2 rfl), ?_⟩
            refine ⟨_, _, _, (hS.cel mp2 rfl), ?_⟩
            refine drM_s hS ?_; clear hS; intro w hS
            replace h := bnd h
            obtain ⟨t25, ht25, h⟩ := h
            refine wk_girderlaw10_is H hS (Ent.sl mp3) (Ent.nil _) ht25 ?_; clear hS ht25; rintro w hS
            refine ⟨_, rfl, ?_⟩
            refine ⟨(hS.cel mp8 rfl), ?_⟩
            refine cond_s h ?_ ?_ <;> clear h <;> intro hc h
            · refine ⟨_, (hS.cel mp0 rfl), ?_⟩
              refine ⟨_, (hS.cel mp0 rfl), ?_⟩
              refine ⟨_, _, _, (hS.cel mp0 rfl), ?_⟩
              refine drM_s hS ?_; clear hS; intro w hS
              replace h := bnd h
              obtain ⟨⟨t26, t27, t28⟩, ho26, h⟩ := h
              refine wk_girderlaw10_of H hS (Ent.nil _) ho26 ?_; clear hS ho26; rintro w rfl hS
              refine ⟨_, _, _, _, _, rfl, ?_⟩
              refine ⟨(hS.cel mp0 rfl), ?_⟩
              refine ⟨(hS.cel mp0 rfl), ?_⟩
              refine ⟨(hS.cel mp0 rfl), ?_⟩
              refine ⟨(hS.cel mp8 rfl), ?_⟩
              refine drM_s hS ?_; clear hS; intro w hS
              replace h := bnd h
              obtain ⟨t29, ht29, h⟩ := h
              refine wk_girderlaw10_is H hS (Ent.sl mp1) (Ent.nil _) ht29 ?_; clear hS ht29; rintro w hS
              refine ⟨_, rfl, ?_⟩
              refine ⟨(hS.cel mp8 rfl), ?_⟩
              refine drM_s hS ?_; clear hS; intro w hS
              obtain rfl := some_inj h
              exact hJ11 _ _ ⟨_, rfl, rfl, (hS.pick (A := [_, _, _, _, _, _, _, _, _, _]) [] rfl)⟩
            · refine drM_s hS ?_; clear hS; intro w hS
              refine ⟨(hS.cel mp8 rfl), ?_⟩
              refine drM_s hS ?_; clear hS; intro w hS
              refine ⟨(hS.cel mp8 rfl), ?_⟩
              refine drM_s hS ?_; clear hS; intro w hS
              obtain rfl := some_inj h
              exact hJ11 _ _ ⟨_, rfl, rfl, (hS.pick (A := [_, _, _, _, _, _, _, _, _, _]) [] rfl)⟩
          · refine drM_s hS ?_; clear hS; intro w hS
            refine ⟨(hS.cel mp8 rfl), ?_⟩
            refine drM_s hS ?_; clear hS; intro w hS
            refine ⟨(hS.cel mp8 rfl), ?_⟩
            refine drM_s hS ?_; clear hS; intro w hS
            refine ⟨(hS.cel mp8 rfl), ?_⟩
            refine drM_s hS ?_; clear hS; intro w hS
            obtain rfl := some_inj h
            exact hJ11 _ _ ⟨_, rfl, rfl, (hS.pick (A := [_, _, _, _, _, _, _, _, _, _]) [] rfl)⟩
        · refine drM_s hS ?_; clear hS; intro w hS
          refine ⟨(hS.cel mp8 rfl), ?_⟩
          refine drM_s hS ?_; clear hS; intro w hS
          refine ⟨(hS.cel mp8 rfl), ?_⟩
          refine drM_s hS ?_; clear hS; intro w hS
          refine ⟨(hS.cel mp8 rfl), ?_⟩
          refine drM_s hS ?_; clear hS; intro w hS
          refine ⟨(hS.cel mp8 rfl), ?_⟩
          refine drM_s hS ?_; clear hS; intro w hS
          obtain rfl := some_inj h
          exact hJ11 _ _ ⟨_, rfl, rfl, (hS.pick (A := [_, _, _, _, _, _, _, _, _, _]) [] rfl)⟩
      · refine drM_s hS ?_; clear hS; intro w hS
        refine ⟨(hS.cel mp8 rfl), ?_⟩
        refine drM_s hS ?_; clear hS; intro w hS
        refine ⟨(hS.cel mp8 rfl), ?_⟩
        refine drM_s hS ?_; clear hS; intro w hS
        refine ⟨(hS.cel mp8 rfl), ?_⟩
        refine drM_s hS ?_; clear hS; intro w hS
        refine ⟨(hS.cel mp8 rfl), ?_⟩
        refine drM_s hS ?_; clear hS; intro w hS
        refine ⟨(hS.cel mp8 rfl), ?_⟩
        refine drM_s hS ?_; clear hS; intro w hS
        obtain rfl := some_inj h
        exact hJ11 _ _ ⟨_, rfl, rfl, (hS.pick (A := [_, _, _, _, _, _, _, _, _, _]) [] rfl)⟩
    · refine drM_s hS ?_; clear hS; intro w hS
      refine drM_s hS ?_; clear hS; intro w hS
      refine drM_s hS ?_; clear hS; intro w hS
      refine drM_s hS ?_; clear hS; intro w hS
      refine drM_s hS ?_; clear hS; intro w hS
      refine drM_s hS ?_; clear hS; intro w hS
      obtain rfl := some_inj h
      exact hJ11 _ _ ⟨_, rfl, rfl, (hS.pick (A := [_, _, _, _, _, _, _, _, _, _]) [] rfl)⟩
  · clear h11 hS
    rintro s w ⟨t21, rfl, rfl, hS⟩
    have h := c11
    clear c11
    try dsimp only
    refine cond_s h ?_ ?_ <;> clear h <;> intro hc h
    · have h := some_inj h
      cases h
      exact hK _ hS
    · replace h := bnd h
      obtain ⟨t30, ht30, h⟩ := h
      obtain rfl : (List.map nf ([4607182418800017408, 4607182418800017408, 4607182418800017408] : List Nat)) = t30 := some_inj ht30
      clear ht30
      refine lit_s (ks := [4607182418800017408, 4607182418800017408, 4607182418800017408]) (enc := (Value.float .f64)) (m := 3) hS rfl rfl ?_; clear hS; intro r13 w hS
      replace h := bnd h
      obtain ⟨⟨t31, t32, t33⟩, ho31, h⟩ := h
      refine wk_girderlaw10_of H hS (Ent.sl mp0) ho31 ?_; clear hS ho31; rintro w rfl hS
      refine ⟨_, _, _, _, _, rfl, ?_⟩
      refine newM_s hS ?_; clear hS; intro r15 w hS
      refine stc_s hS rfl rfl ?_; clear hS; intro w hS
      refine stc_s hS rfl rfl ?_; clear hS; intro w hS
      refine stc_s hS rfl rfl ?_; clear hS; intro w hS
      replace h := bnd h
      obtain ⟨o21, h21, c21⟩ := h
      refine cutM_i (fun s w => ∃ (t34 : Int) (r16 : Nat) (t35 : Int) (t36 : Int) (a17 : Option Addr) (m18 : Nat) (c19 : Nat) (ws20 : List Nat), (t34, t35, t36, (List.map nf ws20)) = o21 ∧ s = ((some ⟨r16, 0, none⟩), t34, ()) ∧ Ho w0 w ((cl r16 [.int .i64 t35, .int .i64 t36, .slice a17 m18 c19] N.t_Matrix) :: (sl a17 m18 c19 (List.map (Value.float .f64) ws20) N.t_float64) :: (cl r15 [.int .i64 t31, .int .i64 t32, .slice (some ⟨r13, 0, none⟩) 3 3] N.t_Matrix) :: (sl (some ⟨r13, 0, none⟩) 3 3 (List.map (Value.float .f64) ([4607182418800017408, 4607182418800017408, 4607182418800017408])) N.t_float64) :: L)) (fun J21 hJ21 => ?_) ?_
      · have h := h21
        clear h21
        refine ⟨_, (hS.cel mp0 rfl), ?_⟩
        refine ⟨_, (hS.cel mp0 rfl), ?_⟩
        refine ⟨_, _, _, (hS.cel mp0 rfl), ?_⟩
        refine ⟨?_, ?_⟩
        · refine drM_s hS ?_; clear hS; intro w hS
          replace h := bnd h
          obtain ⟨t38, ht38, h⟩ := h
          obtain rfl : (List.map nf ([4845873199050653696, 4607182418800017408, 14069245235905429504] : List Nat)) = t38 := some_inj ht38
          clear ht38
          refine lit_s (ks := [4845873199050653696, 4607182418800017408, 14069245235905429504]) (enc := (Value.float .f64)) (m := 3) hS rfl rfl ?_; clear hS; intro r22 w hS
          refine ⟨(hS.cel mp1 rfl), ?_⟩
          refine ⟨(hS.cel mp1 rfl), ?_⟩
          refine ⟨(hS.cel mp1 rfl), ?_⟩
          refine ⟨?_, ?_⟩
          · refine drM_s hS ?_; clear hS; intro w hS
            replace h := bnd h
            obtain ⟨⟨t39, t40, t41⟩, ho39, h⟩ := h
            refine wk_girderlaw10_of H hS (Ent.sl mp0) ho39 ?_; clear hS ho39; rintro w rfl hS
            refine ⟨_, _, _, _, _, rfl, ?_⟩
            refine ⟨(hS.cel mp1 rfl), ?_⟩
            refine ⟨(hS.cel mp1 rfl), ?_⟩
            refine ⟨(hS.cel mp1 rfl), ?_⟩
            refine ⟨?_, ?_⟩
            · refine drM_s hS ?_; clear hS; intro w hS
              replace h := bnd h
              obtain ⟨⟨t42, t43, t44, t45⟩, ho42, h⟩ := h
              refine wk_matrix_Mul H hS (Ent.sl mp0) (Ent.sl mp2) ho42 ?_; clear hS ho42; rintro a24 m24 c24 ws24 w rfl hS
              refine ⟨_, _, _, _, _, _, rfl, ?_⟩
              refine drM_s hS ?_; clear hS; intro w hS
              refine newM_s hS ?_; clear hS; intro r25 w hS
              refine drM_s hS ?_; clear hS; intro w hS
              refine stc_s hS rfl rfl ?_; clear hS; intro w hS
              refine stc_s hS rfl rfl ?_; clear hS; intro w hS
              refine stc_s hS rfl rfl ?_; clear hS; intro w hS
              refine drM_s hS ?_; clear hS; intro w hS
              obtain rfl := some_inj h
              exact hJ21 _ _ ⟨_, _, _, _, _, _, _, _, rfl, rfl, (hS.pick (A := [_, _, _, _, _]) [0, 0, 1, 1] rfl)⟩
            · refine drM_s hS ?_; clear hS; intro w hS
              refine newM_s hS ?_; clear hS; intro r26 w hS
              refine ⟨(hS.cel mp2 rfl), ?_⟩
              refine ⟨(hS.cel mp2 rfl), ?_⟩
              refine ⟨(hS.cel mp2 rfl), ?_⟩
              refine drM_s hS ?_; clear hS; intro w hS
              replace h := bnd h
              obtain ⟨⟨t42, t43, t44, t45⟩, ho42, h⟩ := h
              refine wk_matrix_Mul H hS (Ent.sl mp1) (Ent.sl mp3) ho42 ?_; clear hS ho42; rintro a27 m27 c27 ws27 w rfl hS
              refine ⟨_, _, _, _, _, _, rfl, ?_⟩
              refine drM_s hS ?_; clear hS; intro w hS
              replace hS := ro1 hS
              refine stc_s hS rfl rfl ?_; clear hS; intro w hS
              refine stc_s hS rfl rfl ?_; clear hS; intro w hS
              refine stc_s hS rfl rfl ?_; clear hS; intro w hS
              refine drM_s hS ?_; clear hS; intro w hS
              obtain rfl := some_inj h
              exact hJ21 _ _ ⟨_, _, _, _, _, _, _, _, rfl, rfl, (hS.pick (A := [_, _, _, _, _]) [0, 0, 1, 1] rfl)⟩
          · refine drM_s hS ?_; clear hS; intro w hS
            refine newM_s hS ?_; clear hS; intro r28 w hS
            refine ⟨(hS.cel mp2 rfl), ?_⟩
            refine ⟨(hS.cel mp2 rfl), ?_⟩
            refine ⟨(hS.cel mp2 rfl), ?_⟩
            refine drM_s hS ?_; clear hS; intro w hS
            replace h := bnd h
            obtain ⟨⟨t39, t40, t41⟩, ho39, h⟩ := h
            refine wk_girderlaw10_of H hS (Ent.sl mp1) ho39 ?_; clear hS ho39; rintro w rfl hS
            refine ⟨_, _, _, _, _, rfl, ?_⟩
            refine ⟨(hS.cel mp2 rfl), ?_⟩
            refine ⟨(hS.cel mp2 rfl), ?_⟩
            refine ⟨(hS.cel mp2 rfl), ?_⟩
            refine drM_s hS ?_; clear hS; intro w hS
            replace h := bnd h
            obtain ⟨⟨t42, t43, t44, t45⟩, ho42, h⟩ := h
            refine wk_matrix_Mul H hS (Ent.sl mp1) (Ent.sl mp3) ho42 ?_; clear hS ho42; rintro a30 m30 c30 ws30 w rfl hS
            refine ⟨_, _, _, _, _, _, rfl, ?_⟩
            refine drM_s hS ?_; clear hS; intro w hS
            replace hS := ro1 hS
            refine stc_s hS rfl rfl ?_; clear hS; intro w hS
            refine stc_s hS rfl rfl ?_; clear hS; intro w hS
            refine stc_s hS rfl rfl ?_; clear hS; intro w hS
            refine drM_s hS ?_; clear hS; intro w hS
            obtain rfl := some_inj h
            exact hJ21 _ _ ⟨_, _, _, _, _, _, _, _, rfl, rfl, (hS.pick (A := [_, _, _, _, _]) [0, 0, 1, 1] rfl)⟩
        · refine drM_s hS ?_; clear hS; intro w hS
          refine newM_s hS ?_; clear hS; intro r31 w hS
          refine ⟨(hS.cel mp1 rfl), ?_⟩
          refine ⟨(hS.cel mp1 rfl), ?_⟩
          refine ⟨(hS.cel mp1 rfl), ?_⟩
          refine drM_s hS ?_; clear hS; intro w hS
          replace h := bnd h
          obtain ⟨t38, ht38, h⟩ := h
          obtain rfl : (List.map nf ([4845873199050653696, 4607182418800017408, 14069245235905429504] : List Nat)) = t38 := some_inj ht38
          clear ht38
          refine lit_s (ks := [4845873199050653696, 4607182418800017408, 14069245235905429504]) (enc := (Value.float .f64)) (m := 3) hS rfl rfl ?_; clear hS; intro r32 w hS
          refine ⟨(hS.cel mp2 rfl), ?_⟩
          refine ⟨(hS.cel mp2 rfl), ?_⟩
          refine ⟨(hS.cel mp2 rfl), ?_⟩
          refine drM_s hS ?_; clear hS; intro w hS
          replace h := bnd h
          obtain ⟨⟨t39, t40, t41⟩, ho39, h⟩ := h
          refine wk_girderlaw10_of H hS (Ent.sl mp0) ho39 ?_; clear hS ho39; rintro w rfl hS
          refine ⟨_, _, _, _, _, rfl, ?_⟩
          refine ⟨(hS.cel mp2 rfl), ?_⟩
          refine ⟨(hS.cel mp2 rfl), ?_⟩
          refine ⟨(hS.cel mp2 rfl), ?_⟩
          refine drM_s hS ?_; clear hS; intro w hS
          replace h := bnd h
          obtain ⟨⟨t42, t43, t44, t45⟩, ho42, h⟩ := h
          refine wk_matrix_Mul H hS (Ent.sl mp0) (Ent.sl mp3) ho42 ?_; clear hS ho42; rintro a34 m34 c34 ws34 w rfl hS
          refine ⟨_, _, _, _, _, _, rfl, ?_⟩
          refine drM_s hS ?_; clear hS; intro w hS
          replace hS := ro2 hS
          refine stc_s hS rfl rfl ?_; clear hS; intro w hS
          refine stc_s hS rfl rfl ?_; clear hS; intro w hS
          refine stc_s hS rfl rfl ?_; clear hS; intro w hS
          refine drM_s hS ?_; clear hS; intro w hS
          obtain rfl := some_inj h
          exact hJ21 _ _ ⟨_, _, _, _, _, _, _, _, rfl, rfl, (hS.pick (A := [_, _, _, _, _]) [0, 0, 1, 1] rfl)⟩
      · clear h21 hS
        rintro s w ⟨t34, r16, t35, t36, a17, m18, c19, ws20, rfl, rfl, hS⟩
        have h := c21
        clear c21
        try dsimp only
        replace h := bnd h
        obtain ⟨o40, h40, c40⟩ := h
        refine cutM_i (fun s w => ∃ (t46 : Int) (r35 : Nat) (t47 : Int) (t48 : Int) (a36 : Option Addr) (m37 : Nat) (c38 : Nat) (ws39 : List Nat), (t46, t47, t48, (List.map nf ws39)) = o40 ∧ s = ((some ⟨r35, 0, none⟩), t46, ()) ∧ Ho w0 w ((cl r35 [.int .i64 t47, .int .i64 t48, .slice a36 m37 c38] N.t_Matrix) :: (sl a36 m37 c38 (List.map (Value.float .f64) ws39) N.t_float64) :: (cl r16 [.int .i64 t35, .int .i64 t36, .slice a17 m18 c19] N.t_Matrix) :: (sl a17 m18 c19 (List.map (Value.float .f64) ws20) N.t_float64) :: L)) (fun J40 hJ40 => ?_) ?_
        · have h := h40
          clear h40
          refine ⟨_, (hS.cel mp2 rfl), ?_⟩
          refine ⟨_, (hS.cel mp2 rfl), ?_⟩
          refine ⟨_, _, _, (hS.cel mp2 rfl), ?_⟩
          refine ⟨?_, ?_⟩
          · refine drM_s hS ?_; clear hS; intro w hS
            replace h := bnd h
            obtain ⟨t50, ht50, h⟩ := h
            obtain rfl : (List.map nf ([4845873199050653696, 14069245235905429504, 4607182418800017408] : List Nat)) = t50 := some_inj ht50
            clear ht50
            refine lit_s (ks := [4845873199050653696, 14069245235905429504, 4607182418800017408]) (enc := (Value.float .f64)) (m := 3) hS rfl rfl ?_; clear hS; intro r41 w hS
            refine ⟨(hS.cel mp3 rfl), ?_⟩
            refine ⟨(hS.cel mp3 rfl), ?_⟩
            refine ⟨(hS.cel mp3 rfl), ?_⟩
            refine ⟨?_, ?_⟩
            · refine drM_s hS ?_; clear hS; intro w hS
              replace h := bnd h
              obtain ⟨⟨t51, t52, t53⟩, ho51, h⟩ := h
              refine wk_girderlaw10_of H hS (Ent.sl mp0) ho51 ?_; clear hS ho51; rintro w rfl hS
              refine ⟨_, _, _, _, _, rfl, ?_⟩
              refine ⟨(hS.cel mp3 rfl), ?_⟩
              refine ⟨(hS.cel mp3 rfl), ?_⟩
              refine ⟨(hS.cel mp3 rfl), ?_⟩
              refine ⟨?_, ?_⟩
              · refine drM_s hS ?_; clear hS; intro w hS
                replace h := bnd h
                obtain ⟨⟨t54, t55, t56, t57⟩, ho54, h⟩ := h
                refine wk_matrix_Mul H hS (Ent.sl mp0) (Ent.sl mp4) ho54 ?_; clear hS ho54; rintro a43 m43 c43 ws43 w rfl hS
                refine ⟨_, _, _, _, _, _, rfl, ?_⟩
                refine drM_s hS ?_; clear hS; intro w hS
                refine newM_s hS ?_; clear hS; intro r44 w hS
                refine drM_s hS ?_; clear hS; intro w hS
                refine stc_s hS rfl rfl ?_; clear hS; intro w hS
                refine stc_s hS rfl rfl ?_; clear hS; intro w hS
                refine stc_s hS rfl rfl ?_; clear hS; intro w hS
                refine drM_s hS ?_; clear hS; intro w hS
                obtain rfl := some_inj h
                exact hJ40 _ _ ⟨_, _, _, _, _, _, _, _, rfl, rfl, (hS.pick (A := [_, _, _, _, _, _, _]) [0, 0, 1, 1] rfl)⟩
              · refine drM_s hS ?_; clear hS; intro w hS
                refine newM_s hS ?_; clear hS; intro r45 w hS
                refine ⟨(hS.cel mp4 rfl), ?_⟩
                refine ⟨(hS.cel mp4 rfl), ?_⟩
                refine ⟨(hS.cel mp4 rfl), ?_⟩
                refine drM_s hS ?_; clear hS; intro w hS
                replace h := bnd h
                obtain ⟨⟨t54, t55, t56, t57⟩, ho54, h⟩ := h
                refine wk_matrix_Mul H hS (Ent.sl mp1) (Ent.sl mp5) ho54 ?_; clear hS ho54; rintro a46 m46 c46 ws46 w rfl hS
                refine ⟨_, _, _, _, _, _, rfl, ?_⟩
                refine drM_s hS ?_; clear hS; intro w hS
                replace hS := ro1 hS
                refine stc_s hS rfl rfl ?_; clear hS; intro w hS
                refine stc_s hS rfl rfl ?_; clear hS; intro w hS
                refine stc_s hS rfl rfl ?_; clear hS; intro w hS
                refine drM_s hS ?_; clear hS; intro w hS
                obtain rfl := some_inj h
                exact hJ40 _ _ ⟨_, _, _, _, _, _, _, _, rfl, rfl, (hS.pick (A := [_, _, _, _, _, _, _]) [0, 0, 1, 1] rfl)⟩
            · refine drM_s hS ?_; clear hS; intro w hS
              refine newM_s hS ?_; clear hS; intro r47 w hS
              refine ⟨(hS.cel mp4 rfl), ?_⟩
              refine ⟨(hS.cel mp4 rfl), ?_⟩
              refine ⟨(hS.cel mp4 rfl), ?_⟩
              refine drM_s hS ?_; clear hS; intro w hS
              replace h := bnd h
              obtain ⟨⟨t51, t52, t53⟩, ho51, h⟩ := h
              refine wk_girderlaw10_of H hS (Ent.sl mp1) ho51 ?_; clear hS ho51; rintro w rfl hS
              refine ⟨_, _, _, _, _, rfl, ?_⟩
              refine ⟨(hS.cel mp4 rfl), ?_⟩
              refine ⟨(hS.cel mp4 rfl), ?_⟩
              refine ⟨(hS.cel mp4 rfl), ?_⟩
              refine drM_s hS ?_; clear hS; intro w hS
              replace h := bnd h
              obtain ⟨⟨t54, t55, t56, t57⟩, ho54, h⟩ := h
              refine wk_matrix_Mul H hS (Ent.sl mp1) (Ent.sl mp5) ho54 ?_; clear hS ho54; rintro a49 m49 c49 ws49 w rfl hS
              refine ⟨_, _, _, _, _, _, rfl, ?_⟩
              refine drM_s hS ?_; clear hS; intro w hS
              replace hS := ro1 hS
              refine stc_s hS rfl rfl ?_; clear hS; intro w hS
              refine stc_s hS rfl rfl ?_; clear hS; intro w hS
              refine stc_s hS rfl rfl ?_; clear hS; intro w hS
              refine drM_s hS ?_; clear hS; intro w hS
              obtain rfl := some_inj h
              exact hJ40 _ _ ⟨_, _, _, _, _, _, _, _, rfl, rfl, (hS.pick (A := [_, _, _, _, _, _, _]) [0, 0, 1, 1] rfl)⟩
          · refine drM_s hS ?_; clear hS; intro w hS
            refine newM_s hS ?_; clear hS; intro r50 w hS
            refine ⟨(hS.cel mp3 rfl), ?_⟩
            refine ⟨(hS.cel mp3 rfl), ?_⟩
            refine ⟨(hS.cel mp3 rfl), ?_⟩
            refine drM_s hS ?_; clear hS; intro w hS
            replace h := bnd h
            obtain ⟨t50, ht50, h⟩ := h
            obtain rfl : (List.map nf ([4845873199050653696, 14069245235905429504, 4607182418800017408] : List Nat)) = t50 := some_inj ht50
            clear ht50
            refine lit_s (ks := [4845873199050653696, 14069245235905429504, 4607182418800017408]) (enc := (Value.float .f64)) (m := 3) hS rfl rfl ?_; clear hS; intro r51 w hS
            refine ⟨(hS.cel mp4 rfl), ?_⟩
            refine ⟨(hS.cel mp4 rfl), ?_⟩
            refine ⟨(hS.cel mp4 rfl), ?_⟩
            refine drM_s hS ?_; clear hS; intro w hS
            replace h := bnd h
            obtain ⟨⟨t51, t52, t53⟩, ho51, h⟩ := h
            refine wk_girderlaw10_of H hS (Ent.sl mp0) ho51 ?_; clear hS ho51; rintro w rfl hS
            refine ⟨_, _, _, _, _, rfl, ?_⟩
            refine ⟨(hS.cel mp4 rfl), ?_⟩
            refine ⟨(hS.cel mp4 rfl), ?_⟩
            refine ⟨(hS.cel mp4 rfl), ?_⟩
            refine drM_s hS ?_; clear hS; intro w hS
            replace h := bnd h
            obtain ⟨⟨t54, t55, t56, t57⟩, ho54, h⟩ := h
            refine wk_matrix_Mul H hS (Ent.sl mp0) (Ent.sl mp5) ho54 ?_; clear hS ho54; rintro a53 m53 c53 ws53 w rfl hS
            refine ⟨_, _, _, _, _, _, rfl, ?_⟩
            refine drM_s hS ?_; clear hS; intro w hS
            replace hS := ro2 hS
            refine stc_s hS rfl rfl ?_; clear hS; intro w hS
            refine stc_s hS rfl rfl ?_; clear hS; intro w hS
            refine stc_s hS rfl rfl ?_; clear hS; intro w hS
            refine drM_s hS ?_; clear hS; intro w hS
            obtain rfl := some_inj h
            exact hJ40 _ _ ⟨_, _, _, _, _, _, _, _, rfl, rfl, (hS.pick (A := [_, _, _, _, _, _, _]) [0, 0, 1, 1] rfl)⟩
        · clear h40 hS
          rintro s w ⟨t46, r35, t47, t48, a36, m37, c38, ws39, rfl, rfl, hS⟩
          have h := c40
          clear c40
          try dsimp only
          replace h := bnd h
          obtain ⟨t58, ht58, h⟩ := h
          refine wk_math_Copysign H hS  ht58 ?_; clear hS ht58; rintro z54 w rfl hS
          refine ⟨_, rfl, ?_⟩
          replace h := bnd h
          obtain ⟨t59, ht59, h⟩ := h
          obtain rfl : (List.map nf ([z54] : List Nat)) = t59 := some_inj ht59
          clear ht59
          refine lit_s (ks := [z54]) (enc := (Value.float .f64)) (m := 1) hS rfl rfl ?_; clear hS; intro r55 w hS
          replace h := bnd h
          obtain ⟨⟨t60, t61, t62⟩, ho60, h⟩ := h
          refine wk_girderlaw10_of H hS (Ent.sl mp0) ho60 ?_; clear hS ho60; rintro w rfl hS
          refine ⟨_, _, _, _, _, rfl, ?_⟩
          replace h := bnd h
          obtain ⟨t63, ht63, h⟩ := h
          obtain rfl : (List.map nf ([4607182418800017408] : List Nat)) = t63 := some_inj ht63
          clear ht63
          refine lit_s (ks := [4607182418800017408]) (enc := (Value.float .f64)) (m := 1) hS rfl rfl ?_; clear hS; intro r57 w hS
          replace h := bnd h
          obtain ⟨⟨t64, t65, t66⟩, ho64, h⟩ := h
          refine wk_girderlaw10_of H hS (Ent.sl mp0) ho64 ?_; clear hS ho64; rintro w rfl hS
          refine ⟨_, _, _, _, _, rfl, ?_⟩
          replace h := bnd h
          obtain ⟨⟨t67, t68, t69, t70⟩, ho67, h⟩ := h
          refine wk_matrix_Mul H hS (Ent.sl mp1) (Ent.sl mp0) ho67 ?_; clear hS ho67; rintro a59 m59 c59 ws59 w rfl hS
          refine ⟨_, _, _, _, _, _, rfl, ?_⟩
          refine newM_s hS ?_; clear hS; intro r60 w hS
          refine stc_s hS rfl rfl ?_; clear hS; intro w hS
          refine stc_s hS rfl rfl ?_; clear hS; intro w hS
          refine stc_s hS rfl rfl ?_; clear hS; intro w hS
          replace h := bnd h
          obtain ⟨t71, ht71, h⟩ := h
          obtain rfl : (List.map nf ([0] : List Nat)) = t71 := some_inj ht71
          clear ht71
          refine lit_s (ks := [0]) (enc := (Value.float .f64)) (m := 1) hS rfl rfl ?_; clear hS; intro r61 w hS
          replace h := bnd h
          obtain ⟨⟨t72, t73, t74⟩, ho72, h⟩ := h
          refine wk_girderlaw10_of H hS (Ent.sl mp0) ho72 ?_; clear hS ho72; rintro w rfl hS
          refine ⟨_, _, _, _, _, rfl, ?_⟩
          replace h := bnd h
          obtain ⟨t75, ht75, h⟩ := h
          refine wk_math_Inf H hS  ht75 ?_; clear hS ht75; rintro z63 w rfl hS
          refine ⟨_, rfl, ?_⟩
          replace h := bnd h
          obtain ⟨t76, ht76, h⟩ := h
          obtain rfl : (List.map nf ([z63] : List Nat)) = t76 := some_inj ht76
          clear ht76
          refine lit_s (ks := [z63]) (enc := (Value.float .f64)) (m := 1) hS rfl rfl ?_; clear hS; intro r64 w hS
          replace h := bnd h
          obtain ⟨⟨t77, t78, t79⟩, ho77, h⟩ := h
          refine wk_girderlaw10_of H hS (Ent.sl mp0) ho77 ?_; clear hS ho77; rintro w rfl hS
          refine ⟨_, _, _, _, _, rfl, ?_⟩
          replace h := bnd h
          obtain ⟨⟨t80, t81, t82, t83⟩, ho80, h⟩ := h
          refine wk_matrix_Mul H hS (Ent.sl mp1) (Ent.sl mp0) ho80 ?_; clear hS ho80; rintro a66 m66 c66 ws66 w rfl hS
          refine ⟨_, _, _, _, _, _, rfl, ?_⟩
          refine newM_s hS ?_; clear hS; intro r67 w hS
          refine stc_s hS rfl rfl ?_; clear hS; intro w hS
          refine stc_s hS rfl rfl ?_; clear hS; intro w hS
          refine stc_s hS rfl rfl ?_; clear hS; intro w hS
          replace h := bnd h
          obtain ⟨t84, ht84, h⟩ := h
          obtain rfl : (List.map nf ([4845873199050653696, 4607182418800017408] : List Nat)) = t84 := some_inj ht84
          clear ht84
          refine lit_s (ks := [4845873199050653696, 4607182418800017408]) (enc := (Value.float .f64)) (m := 2) hS rfl rfl ?_; clear hS; intro r68 w hS
          replace h := bnd h
          obtain ⟨⟨t85, t86, t87⟩, ho85, h⟩ := h
          refine wk_girderlaw10_of H hS (Ent.sl mp0) ho85 ?_; clear hS ho85; rintro w rfl hS
          refine ⟨_, _, _, _, _, rfl, ?_⟩
          replace h := bnd h
          obtain ⟨⟨t88, t89⟩, ho88, h⟩ := h
          refine wk_matrix_Norm H hS (Ent.sl mp0) ho88 ?_; clear hS ho88; rintro z70 w rfl hS
          refine ⟨_, _, rfl, ?_⟩
          replace h := bnd h
          obtain ⟨t90, ht90, h⟩ := h
          refine wk_math_NaN H hS  ht90 ?_; clear hS ht90; rintro z71 w rfl hS
          refine ⟨_, rfl, ?_⟩
          replace h := bnd h
          obtain ⟨t91, ht91, h⟩ := h
          obtain rfl : (List.map nf ([4607182418800017408, z71] : List Nat)) = t91 := some_inj ht91
          clear ht91
          refine lit_s (ks := [4607182418800017408, z71]) (enc := (Value.float .f64)) (m := 2) hS rfl rfl ?_; clear hS; intro r72 w hS
          replace h := bnd h
          obtain ⟨⟨t92, t93, t94⟩, ho92, h⟩ := h
          refine wk_girderlaw10_of H hS (Ent.sl mp0) ho92 ?_; clear hS ho92; rintro w rfl hS
          refine ⟨_, _, _, _, _, rfl, ?_⟩
          replace h := bnd h
          obtain ⟨⟨t95, t96⟩, ho95, h⟩ := h
          refine wk_matrix_Norm H hS (Ent.sl mp0) ho95 ?_; clear hS ho95; rintro z74 w rfl hS
          refine ⟨_, _, rfl, ?_⟩
          replace h := bnd h
          obtain ⟨⟨t97, t98, t99⟩, ho97, h⟩ := h
          refine wk_girderlaw10_of H hS (Ent.nil _) ho97 ?_; clear hS ho97; rintro w rfl hS
          refine ⟨_, _, _, _, _, rfl, ?_⟩
          replace h := bnd h
          obtain ⟨⟨t100, t101, t102⟩, ho100, h⟩ := h
          refine wk_girderlaw10_of H hS (Ent.nil _) ho100 ?_; clear hS ho100; rintro w rfl hS
          refine ⟨_, _, _, _, _, rfl, ?_⟩
          replace h := bnd h
          obtain ⟨⟨t103, t104, t105, t106⟩, ho103, h⟩ := h
          refine wk_matrix_Mul H hS (Ent.nil _) (Ent.nil _) ho103 ?_; clear hS ho103; rintro a77 m77 c77 ws77 w rfl hS
          refine ⟨_, _, _, _, _, _, rfl, ?_⟩
          refine newM_s hS ?_; clear hS; intro r78 w hS
          refine stc_s hS rfl rfl ?_; clear hS; intro w hS
          refine stc_s hS rfl rfl ?_; clear hS; intro w hS
          refine stc_s hS rfl rfl ?_; clear hS; intro w hS
          replace h := bnd h
          obtain ⟨o79, h79, c79⟩ := h
          refine cutM_i (fun s w => ∃ (t107 : Bool), t107 = o79 ∧ s = (t107, ()) ∧ Ho w0 w (L)) (fun J79 hJ79 => ?_) ?_
          · have h := h79
            clear h79
            refine optM_s ?_
            refine ⟨_, (hS.cel mp14 rfl), ?_⟩
            refine ⟨_, (hS.cel mp14 rfl), ?_⟩
            refine ⟨_, _, _, (hS.cel mp14 rfl), ?_⟩
            refine drM_s hS ?_; clear hS; intro w hS
            replace h := bnd h
            obtain ⟨t108, ht108, h⟩ := h
            obtain rfl : (List.map nf ([0] : List Nat)) = t108 := some_inj ht108
            clear ht108
            refine lit_s (ks := [0]) (enc := (Value.float .f64)) (m := 1) hS rfl rfl ?_; clear hS; intro r80 w hS
            refine ⟨(hS.cel mp15 rfl), ?_⟩
            refine ⟨(hS.cel mp15 rfl), ?_⟩
            refine ⟨(hS.cel mp15 rfl), ?_⟩
            refine drM_s hS ?_; clear hS; intro w hS
            replace h := bnd h
            obtain ⟨⟨t109, t110, t111⟩, ho109, h⟩ := h
            refine wk_girderlaw10_of H hS (Ent.sl mp0) ho109 ?_; clear hS ho109; rintro w rfl hS
            refine ⟨_, _, _, _, _, rfl, ?_⟩
            refine ⟨(hS.cel mp15 rfl), ?_⟩
            refine ⟨(hS.cel mp15 rfl), ?_⟩
            refine ⟨(hS.cel mp15 rfl), ?_⟩
            refine drM_s hS ?_; clear hS; intro w hS
            replace h := bnd h
            obtain ⟨t112, ht112, h⟩ := h
            refine wk_girderlaw10_is H hS (Ent.sl mp16) (Ent.sl mp0) ht112 ?_; clear hS ht112; rintro w hS
            refine ⟨_, rfl, ?_⟩
            refine cond_s h ?_ ?_ <;> clear h <;> intro hc h
            · refine optM_s ?_
              refine ⟨_, (hS.cel mp13 rfl), ?_⟩
              refine ⟨_, (hS.cel mp13 rfl), ?_⟩
              refine ⟨_, _, _, (hS.cel mp13 rfl), ?_⟩
              refine drM_s hS ?_; clear hS; intro w hS
              replace h := bnd h
              obtain ⟨t113, ht113, h⟩ := h
              obtain rfl : (List.map nf ([4607182418800017408] : List Nat)) = t113 := some_inj ht113
              clear ht113
              refine lit_s (ks := [4607182418800017408]) (enc := (Value.float .f64)) (m := 1) hS rfl rfl ?_; clear hS; intro r82 w hS
              refine ⟨(hS.cel mp14 rfl), ?_⟩
              refine ⟨(hS.cel mp14 rfl), ?_⟩
              refine ⟨(hS.cel mp14 rfl), ?_⟩
              refine drM_s hS ?_; clear hS; intro w hS
              replace h := bnd h
              obtain ⟨⟨t114, t115, t116⟩, ho114, h⟩ := h
              refine wk_girderlaw10_of H hS (Ent.sl mp0) ho114 ?_; clear hS ho114; rintro w rfl hS
              refine ⟨_, _, _, _, _, rfl, ?_⟩
              refine ⟨(hS.cel mp14 rfl), ?_⟩
              refine ⟨(hS.cel mp14 rfl), ?_⟩
              refine ⟨(hS.cel mp14 rfl), ?_⟩
              refine drM_s hS ?_; clear hS; intro w hS
              replace h := bnd h
              obtain ⟨t117, ht117, h⟩ := h
              refine wk_girderlaw10_is H hS (Ent.sl mp15) (Ent.sl mp0) ht117 ?_; clear hS ht117; rintro w hS
              refine ⟨_, rfl, ?_⟩
              refine cond_s h ?_ ?_ <;> clear h <;> intro hc h
              · refine ⟨_, (hS.cel mp10 rfl), ?_⟩
                refine ⟨_, (hS.cel mp10 rfl), ?_⟩
                refine ⟨_, _, _, (hS.cel mp10 rfl), ?_⟩
                refine drM_s hS ?_; clear hS; intro w hS
                replace h := bnd h
                obtain ⟨t118, ht118, h⟩ := h
                obtain rfl : (List.map nf ([0] : List Nat)) = t118 := some_inj ht118
                clear ht118
                refine lit_s (ks := [0]) (enc := (Value.float .f64)) (m := 1) hS rfl rfl ?_; clear hS; intro r84 w hS
                refine ⟨(hS.cel mp11 rfl), ?_⟩
                refine ⟨(hS.cel mp11 rfl), ?_⟩
                refine ⟨(hS.cel mp11 rfl), ?_⟩
                refine drM_s hS ?_; clear hS; intro w hS
                replace h := bnd h
                obtain ⟨⟨t119, t120, t121⟩, ho119, h⟩ := h
                refine wk_girderlaw10_of H hS (Ent.sl mp0) ho119 ?_; clear hS ho119; rintro w rfl hS
                refine ⟨_, _, _, _, _, rfl, ?_⟩
                refine ⟨(hS.cel mp11 rfl), ?_⟩
                refine ⟨(hS.cel mp11 rfl), ?_⟩
                refine ⟨(hS.cel mp11 rfl), ?_⟩
                refine drM_s hS ?_; clear hS; intro w hS
                replace h := bnd h
                obtain ⟨t122, ht122, h⟩ := h
                refine wk_girderlaw10_is H hS (Ent.sl mp12) (Ent.sl mp0) ht122 ?_; clear hS ht122; rintro w hS
                refine ⟨_, rfl, ?_⟩
                refine cond_s h ?_ ?_ <;> clear h <;> intro hc h
                · refine ⟨_, (hS.cel mp7 rfl), ?_⟩
                  refine ⟨_, (hS.cel mp7 rfl), ?_⟩
                  refine ⟨_, _, _, (hS.cel mp7 rfl), ?_⟩
                  refine drM_s hS ?_; clear hS; intro w hS
                  replace h := bnd h
                  obtain ⟨t123, ht123, h⟩ := h
                  refine wk_math_NaN H hS  ht123 ?_; clear hS ht123; rintro z86 w rfl hS
                  refine ⟨_, rfl, ?_⟩
                  refine ⟨(hS.cel mp7 rfl), ?_⟩
                  refine ⟨(hS.cel mp7 rfl), ?_⟩
                  refine ⟨(hS.cel mp7 rfl), ?_⟩
                  refine drM_s hS ?_; clear hS; intro w hS
                  replace h := bnd h
                  obtain ⟨t124, ht124, h⟩ := h
                  obtain rfl : (List.map nf ([z86] : List Nat)) = t124 := some_inj ht124
                  clear ht124
                  refine lit_s (ks := [z86]) (enc := (Value.float .f64)) (m := 1) hS rfl rfl ?_; clear hS; intro r87 w hS
                  refine ⟨(hS.cel mp8 rfl), ?_⟩
                  refine ⟨(hS.cel mp8 rfl), ?_⟩
                  refine ⟨(hS.cel mp8 rfl), ?_⟩
                  refine drM_s hS ?_; clear hS; intro w hS
                  replace h := bnd h
                  obtain ⟨⟨t125, t126, t127⟩, ho125, h⟩ := h
                  refine wk_girderlaw10_of H hS (Ent.sl mp0) ho125 ?_; clear hS ho125; rintro w rfl hS
                  refine ⟨_, _, _, _, _, rfl, ?_⟩
                  refine ⟨(hS.cel mp8 rfl), ?_⟩
                  refine ⟨(hS.cel mp8 rfl), ?_⟩
                  refine ⟨(hS.cel mp8 rfl), ?_⟩
                  refine drM_s hS ?_; clear hS; intro w hS
                  replace h := bnd h
                  obtain ⟨t128, ht128, h⟩ := h
                  refine wk_girderlaw10_is H hS (Ent.sl mp9) (Ent.sl mp0) ht128 ?_; clear hS ht128; rintro w hS
                  refine ⟨_, rfl, ?_⟩
                  refine cond_s h ?_ ?_ <;> clear h <;> intro hc h
                  · refine ⟨_, (hS.cel mp4 rfl), ?_⟩
                    refine ⟨_, (hS.cel mp4 rfl), ?_⟩
                    refine ⟨_, _, _, (hS.cel mp4 rfl), ?_⟩
                    refine drM_s hS ?_; clear hS; intro w hS
                    replace h := bnd h
                    obtain ⟨t129, ht129, h⟩ := h
                    obtain rfl : (List.map nf ([0, 0, 0, 0, 0, 0] : List Nat)) = t129 := some_inj ht129
                    clear ht129
                    refine lit_s (ks := [0, 0, 0, 0, 0, 0]) (enc := (Value.float .f64)) (m := 6) hS rfl rfl ?_; clear hS; intro r89 w hS
                    refine ⟨(hS.cel mp5 rfl), ?_⟩
                    refine ⟨(hS.cel mp5 rfl), ?_⟩
                    refine ⟨(hS.cel mp5 rfl), ?_⟩
                    refine drM_s hS ?_; clear hS; intro w hS
                    replace h := bnd h
                    obtain ⟨⟨t130, t131, t132⟩, ho130, h⟩ := h
                    refine wk_girderlaw10_of H hS (Ent.sl mp0) ho130 ?_; clear hS ho130; rintro w rfl hS
                    refine ⟨_, _, _, _, _, rfl, ?_⟩
                    refine ⟨(hS.cel mp5 rfl), ?_⟩
                    refine ⟨(hS.cel mp5 rfl), ?_⟩
                    refine ⟨(hS.cel mp5 rfl), ?_⟩
                    refine drM_s hS ?_; clear hS; intro w hS
                    replace h := bnd h
                    obtain ⟨t133, ht133, h⟩ := h
                    refine wk_girderlaw10_is H hS (Ent.sl mp6) (Ent.sl mp0) ht133 ?_; clear hS ht133; rintro w hS
                    refine ⟨_, rfl, ?_⟩
                    refine drM_s hS ?_; clear hS; intro w hS
                    obtain rfl := some_inj h
                    exact hJ79 _ _ ⟨_, rfl, rfl, (hS.pick (A := [_, _, _, _, _, _, _, _, _, _, _, _, _, _, _, _, _, _, _, _, _]) [] rfl)⟩
                  · refine drM_s hS ?_; clear hS; intro w hS
                    refine drM_s hS ?_; clear hS; intro w hS
                    refine drM_s hS ?_; clear hS; intro w hS
                    refine drM_s hS ?_; clear hS; intro w hS
                    obtain rfl := some_inj h
                    exact hJ79 _ _ ⟨_, rfl, rfl, (hS.pick (A := [_, _, _, _, _, _, _, _, _, _, _, _, _, _, _, _, _, _, _, _]) [] rfl)⟩
                · refine drM_s hS ?_; clear hS; intro w hS
                  refine drM_s hS ?_; clear hS; intro w hS
                  refine drM_s hS ?_; clear hS; intro w hS
                  refine drM_s hS ?_; clear hS; intro w hS
                  refine drM_s hS ?_; clear hS; intro w hS
                  refine drM_s hS ?_; clear hS; intro w hS
                  refine drM_s hS ?_; clear hS; intro w hS
                  refine drM_s hS ?_; clear hS; intro w hS
                  obtain rfl := some_inj h
                  exact hJ79 _ _ ⟨_, rfl, rfl, (hS.pick (A := [_, _, _, _, _, _, _, _, _, _, _, _, _, _, _, _, _, _, _]) [] rfl)⟩
              · refine drM_s hS ?_; clear hS; intro w hS
                refine drM_s hS ?_; clear hS; intro w hS
                refine drM_s hS ?_; clear hS; intro w hS
                refine drM_s hS ?_; clear hS; intro w hS
                refine drM_s hS ?_; clear hS; intro w hS
                refine drM_s hS ?_; clear hS; intro w hS
                refine drM_s hS ?_; clear hS; intro w hS
                refine drM_s hS ?_; clear hS; intro w hS
                refine drM_s hS ?_; clear hS; intro w hS
                refine drM_s hS ?_; clear hS; intro w hS
                refine drM_s hS ?_; clear hS; intro w hS
                obtain rfl := some_inj h
                exact hJ79 _ _ ⟨_, rfl, rfl, (hS.pick (A := [_, _, _, _, _, _, _, _, _, _, _, _, _, _, _, _, _, _]) [] rfl)⟩
            · refine drM_s hS ?_; clear hS; intro w hS
              refine drM_s hS ?_; clear hS; intro w hS
              refine drM_s hS ?_; clear hS; intro w hS
              refine drM_s hS ?_; clear hS; intro w hS
              refine drM_s hS ?_; clear hS; intro w hS
              refine drM_s hS ?_; clear hS; intro w hS
              refine drM_s hS ?_; clear hS; intro w hS
              refine drM_s hS ?_; clear hS; intro w hS
              refine drM_s hS ?_; clear hS; intro w hS
              refine drM_s hS ?_; clear hS; intro w hS
              refine drM_s hS ?_; clear hS; intro w hS
              refine drM_s hS ?_; clear hS; intro w hS
              refine drM_s hS ?_; clear hS; intro w hS
              refine drM_s hS ?_; clear hS; intro w hS
              obtain rfl := some_inj h
              exact hJ79 _ _ ⟨_, rfl, rfl, (hS.pick (A := [_, _, _, _, _, _, _, _, _, _, _, _, _, _, _, _, _]) [] rfl)⟩
          · clear h79 hS
            rintro s w ⟨t107, rfl, rfl, hS⟩
            have h := c79
            clear c79
            try dsimp only
            replace h := bnd h
            obtain ⟨o91, h91, c91⟩ := h
            refine cutM_i (fun s w => ∃ (t134 : Bool), t134 = o91 ∧ s = (t134, ()) ∧ Ho w0 w (L)) (fun J91 hJ91 => ?_) ?_
            · have h := h91
              clear h91
              replace h := bnd h
              obtain ⟨t135, ht135, h⟩ := h
              obtain rfl := feq_s ht135
              clear ht135
              refine cond_s h ?_ ?_ <;> clear h <;> intro hc h
              · refine cond_s h ?_ ?_ <;> clear h <;> intro hc h
                · replace h := bnd h
                  obtain ⟨t136, ht136, h⟩ := h
                  obtain rfl := feq_s ht136
                  clear ht136
                  refine cond_s h ?_ ?_ <;> clear h <;> intro hc h
                  · refine cond_s h ?_ ?_ <;> clear h <;> intro hc h
                    · replace h := bnd h
                      obtain ⟨t137, ht137, h⟩ := h
                      refine wk_math_Copysign H hS  ht137 ?_; clear hS ht137; rintro z92 w rfl hS
                      refine ⟨_, rfl, ?_⟩
                      replace h := bnd h
                      obtain ⟨t138, ht138, h⟩ := h
                      obtain rfl : (List.map nf ([4607182418800017408, 0, z92, 4607182418800017408] : List Nat)) = t138 := some_inj ht138
                      clear ht138
                      refine lit_s (ks := [4607182418800017408, 0, z92, 4607182418800017408]) (enc := (Value.float .f64)) (m := 4) hS rfl rfl ?_; clear hS; intro r93 w hS
                      replace h := bnd h
                      obtain ⟨⟨t139, t140, t141⟩, ho139, h⟩ := h
                      refine wk_girderlaw10_of H hS (Ent.sl mp0) ho139 ?_; clear hS ho139; rintro w rfl hS
                      refine ⟨_, _, _, _, _, rfl, ?_⟩
                      replace h := bnd h
                      obtain ⟨t142, ht142, h⟩ := h
                      refine wk_matrix_Symmetric H hS (Ent.sl mp0) ht142 ?_; clear hS ht142; rintro w hS
                      refine ⟨_, rfl, ?_⟩
                      refine cond_s h ?_ ?_ <;> clear h <;> intro hc h
                      · replace h := bnd h
                        obtain ⟨t143, ht143, h⟩ := h
                        obtain rfl : (List.map nf ([4607182418800017408, 4611686018427387904, 4613937818241073152] : List Nat)) = t143 := some_inj ht143
                        clear ht143
                        refine lit_s (ks := [4607182418800017408, 4611686018427387904, 4613937818241073152]) (enc := (Value.float .f64)) (m := 3) hS rfl rfl ?_; clear hS; intro r95 w hS
                        replace h := bnd h
                        obtain ⟨⟨t144, t145, t146⟩, ho144, h⟩ := h
                        refine wk_girderlaw10_of H hS (Ent.sl mp0) ho144 ?_; clear hS ho144; rintro w rfl hS
                        refine ⟨_, _, _, _, _, rfl, ?_⟩
                        replace h := bnd h
                        obtain ⟨t147, ht147, h⟩ := h
                        refine wk_matrix_Right H hS (Ent.sl mp0) ht147 ?_; clear hS ht147; rintro w hS
                        refine ⟨_, rfl, ?_⟩
                        obtain rfl := some_inj h
                        exact hJ91 _ _ ⟨_, rfl, rfl, (hS.pick (A := [_, _]) [] rfl)⟩
                      · obtain rfl := some_inj h
                        exact hJ91 _ _ ⟨_, rfl, rfl, (hS.pick (A := [_]) [] rfl)⟩
                    · obtain rfl := some_inj h
                      exact hJ91 _ _ ⟨_, rfl, rfl, hS⟩
                  · obtain rfl := some_inj h
                    exact hJ91 _ _ ⟨_, rfl, rfl, hS⟩
                · obtain rfl := some_inj h
                  exact hJ91 _ _ ⟨_, rfl, rfl, hS⟩
              · obtain rfl := some_inj h
                exact hJ91 _ _ ⟨_, rfl, rfl, hS⟩
            · clear h91 hS
              rintro s w ⟨t134, rfl, rfl, hS⟩
              have h := c91
              clear c91
              try dsimp only
              replace h := bnd h
              obtain ⟨t148, ht148, h⟩ := h
              obtain rfl : (List.map nf ([4607182418800017408] : List Nat)) = t148 := some_inj ht148
              clear ht148
              refine lit_s (ks := [4607182418800017408]) (enc := (Value.float .f64)) (m := 1) hS rfl rfl ?_; clear hS; intro r97 w hS
              replace h := bnd h
              obtain ⟨⟨t149, t150, t151⟩, ho149, h⟩ := h
              refine wk_girderlaw10_of H hS (Ent.sl mp0) ho149 ?_; clear hS ho149; rintro w rfl hS
              refine ⟨_, _, _, _, _, rfl, ?_⟩
              replace h := bnd h
              obtain ⟨⟨t152, t153⟩, ho152, h⟩ := h
              refine wk_matrix_Norm H hS (Ent.sl mp0) ho152 ?_; clear hS ho152; rintro z99 w rfl hS
              refine ⟨_, _, rfl, ?_⟩
              refine cond_s h ?_ ?_ <;> clear h <;> intro hc h
              · refine cond_s h ?_ ?_ <;> clear h <;> intro hc h
                · replace h := bnd h
                  obtain ⟨t154, ht154, h⟩ := h
                  obtain rfl := feq_s ht154
                  clear ht154
                  refine cond_s h ?_ ?_ <;> clear h <;> intro hc h
                  · refine cond_s h ?_ ?_ <;> clear h <;> intro hc h
                    · replace h := bnd h
                      obtain ⟨t155, ht155, h⟩ := h
                      refine wk_girderlaw10_awake H hS  ht155 ?_; clear hS ht155; rintro w hS
                      refine ⟨_, rfl, ?_⟩
                      have h := some_inj h
                      cases h
                      exact hK _ (hS.pick (A := [_]) [] rfl)
                    · have h := some_inj h
                      cases h
                      exact hK _ (hS.pick (A := [_]) [] rfl)
                  · have h := some_inj h
                    cases h
                    exact hK _ (hS.pick (A := [_]) [] rfl)
                · have h := some_inj h
                  cases h
                  exact hK _ (hS.pick (A := [_]) [] rfl)
              · have h := some_inj h
                cases h
                exact hK _ (hS.pick (A := [_]) [] rfl)

end Go.Eng
