/-
 Each function comes to what its function of plain Lean says, printed by a program of the session; with contracts written by hand at the head. No condition.
-/
import Derived.Test.YtdephdnkkljfeaaDoorTp
import Derived.Test.YtdephdnkkljfeaaDoorSh
import Derived.Test.YtdephdnkkljfeaaDoorBgW
import Derived.Test.YtdephdnkkljfeaaDoorBitC
set_option linter.all false
set_option maxRecDepth 100000
set_option maxHeartbeats 4000000
namespace Go.Eng
open Go
section
variable {N : Nums} {P : Program} (H : AllOk N P)
include H
theorem bits_c (x : Nat) (w : World) : CallsX P N.f_math_Float64bits #[.float .f64 x] w fun v w' => v = .int .u64 x ∧ St w w' [] :=
 H.math_Float64bits x w _ ⟨rfl, St.refl _⟩
theorem abs_c (x : Nat) (w : World) : CallsX P N.f_math_Abs #[.float .f64 x] w fun v w' => v = .float .f64 (magF x) ∧ St w w' [] := by
 refine H.math_Abs x w _ ?_
 unfold S_math_Abs
 refine (bits_c H x w).mono ?_
 rintro _ w1 ⟨rfl, h1⟩
 refine ⟨_, rfl, ?_⟩
 refine H.math_Float64frombits _ w1 _ ?_
 rw [abs_bits]
 exact ⟨_, rfl, rfl, h1⟩
theorem sameFloat_c (x y : Nat) (w : World) : CallsX P N.f_k_SameFloat #[.float .f64 x, .float .f64 y] w fun v w' => v = .bool (nf x == nf y) ∧ St w w' [] := by
 refine H.k_SameFloat x y w _ ?_
 unfold S_k_SameFloat
 refine (bits_c H x w).mono ?_
 rintro _ w1 ⟨rfl, h1⟩
 refine ⟨_, rfl, ?_⟩
 refine (bits_c H y w1).mono ?_
 rintro _ w2 ⟨rfl, h2⟩
 refine ⟨_, rfl, ?_⟩
 have hS := h1.next h2
 have hxy : (((x : Nat) : Int) == ((y : Nat) : Int)) = (x == y) := by rw [Bool.eq_iff_iff]; simp; omega
 rw [same_bits, hxy, feq_self, feq_self]
 cases x == y <;> cases isNaN x <;> exact ⟨by simp, hS⟩
theorem signbit_c (x : Nat) (w : World) : CallsX P N.f_math_Signbit #[.float .f64 x] w fun v w' => v = .bool (negF x) ∧ St w w' [] := by
 refine H.math_Signbit x w _ ?_
 unfold S_math_Signbit
 refine (bits_c H x w).mono ?_
 rintro _ w1 ⟨rfl, h1⟩
 exact ⟨_, rfl, by rw [sign_bits], h1⟩
theorem copysign_c (x y : Nat) (w : World) : CallsX P N.f_math_Copysign #[.float .f64 x, .float .f64 y] w fun v w' => v = .float .f64 ((if negF y then 9223372036854775808 else 0) + magF x) ∧ St w w' [] := by
 refine H.math_Copysign x y w _ ?_
 unfold S_math_Copysign
 refine (bits_c H x w).mono ?_
 rintro _ w1 ⟨rfl, h1⟩
 refine ⟨_, rfl, ?_⟩
 refine (bits_c H y w1).mono ?_
 rintro _ w2 ⟨rfl, h2⟩
 refine ⟨_, rfl, ?_⟩
 refine H.math_Float64frombits _ w2 _ ?_
 rw [copy_bits]
 exact ⟨_, rfl, rfl, h1.next h2⟩
theorem isNaN_c (x : Nat) (w : World) : CallsX P N.f_math_IsNaN #[.float .f64 x] w fun v w' => v = .bool (isNaN x) ∧ St w w' [] := by
 refine H.math_IsNaN x w _ ?_
 refine ⟨?_, St.refl w⟩
 rw [feq_self]; simp
theorem vsame_c {w : World} {a b : Option Addr} {n c m d : Nat} {l k : List Nat} (ha : Reals w a n c l) (hb : Reals w b m d k) (hn : n ≤ 4294967296) :
  CallsX P N.f_vector_Same #[.slice a n c, .slice b m d] w fun v w' => v = .bool (l.map nf == k.map nf) ∧ St w w' [] := by
 refine H.vector_Same a n c b m d w _ ?_
 unfold S_vector_Same
 have la := ha.len
 have lb := hb.len
 refine cond_i (fun h => ?_) (fun h => ?_)
 ·
  refine ⟨?_, St.refl _⟩
  congr 1
  have h' : n ≠ m := by simp at h; omega
  simp only [Bool.false_eq, beq_eq_false_iff_ne, ne_eq]
  intro e
  have := congrArg List.length e
  simp at this; omega
 ·
  have hnm : n = m := by simp at h; omega
  subst hnm
  refine cutM_i (fun s w' => l.map nf = k.map nf ∧ St w w' []) (fun J hJ => ?_) (fun s w' ⟨h, hS⟩ => ⟨by simp [h], hS⟩)
  refine loopM_i (fun s w' => ∃ i : Nat, s.1 = (i : Int) ∧ i ≤ n ∧ (∀ j, j < i → nf (l.getD j 0) = nf (k.getD j 0)) ∧ St w w' []) (fun s => n - s.1.toNat) ⟨0, rfl, by omega, fun j h => by omega, St.refl w⟩ ?_
  rintro ⟨s, u⟩ w X ⟨i, hi, hin, hall, hS⟩ hX
  dsimp only at hi; subst hi
  refine cond_i (fun hb1 => ?_) (fun hb1 => ?_)
  ·
   have hlt : i < n := by simpa using hb1
   have hadv : nf (l.getD i 0) = nf (k.getD i 0) → ∀ w', St _ w' [] → X (IntKind.i64.wrap ((i : Int) + 1), u) w' := fun he w' hS' => by
    refine hX _ _ ⟨i + 1, wrS hlt (by omega), by omega, fun j hj => ?_, hS'⟩ (by dsimp only; rw [wrS hlt (by omega)]; omega)
    by_cases e : j = i
    ·
     subst e; exact he
    ·
     exact hall j (by omega)
   have hbad : nf (l.getD i 0) ≠ nf (k.getD i 0) → (Value.bool false) = Value.bool (l.map nf == k.map nf) := fun he => by
    congr 1
    simp only [Bool.false_eq, beq_eq_false_iff_ne, ne_eq]
    intro e
    apply he
    have := congrArg (fun q => q.getD i 0) e
    simpa [List.getD_eq_getElem?_getD, show i < l.length by omega, show i < k.length by omega] using this
   obtain ⟨xa, rfl, hxa⟩ := ha.at_ i (by omega)
   obtain ⟨xb, rfl, hxb⟩ := hb.at_ i (by omega)
   dsimp only
   rw [Int.toNat_natCast, Nat.mul_one]
   refine ⟨by omega, by omega, optM_mk rfl ⟨_, hS.cell hxa, by omega, by omega, optM_mk rfl ⟨_, hS.cell hxb, ?_⟩⟩⟩
   (try simp only [List.cons_append, List.nil_append, List.append_assoc] at hS); (repeat (first | (with_reducible (refine ⟨_, hS.cell ‹_›, ?_⟩)) | (with_reducible (refine ⟨_, _, _, hS.cell ‹_›, ?_⟩)) | (with_reducible (refine ⟨hS.cell ‹_›, ?_⟩)) | ((with_reducible first | apply ldI hS | apply ldS hS | apply hldS hS | apply hldI hS | apply ldF hS | apply ldP hS | apply ldB hS | apply hldF hS); (case ha => exact rfl); (case he => (repeat (first | with_reducible exact List.mem_cons_self | with_reducible refine List.mem_cons_of_mem _ ?_))); (case hc => exact rfl)) | (guard_target = newM _ _ _ _; refine newM_i hS ?_; clear hS; intro _ w hS) | (guard_target = drM _ _; refine drM_i hS ?_; clear hS; intro w hS) | (guard_target = stM _ _ _ _; (first | refine st0 hS rfl rfl ?_ | refine st1 hS rfl rfl ?_ | refine st2 hS rfl rfl ?_ | refine st3 hS rfl rfl ?_ | refine st4 hS rfl rfl ?_ | refine st5 hS rfl rfl ?_ | refine st6 hS rfl rfl ?_ | refine st7 hS rfl rfl ?_); clear hS; intro w hS) | (guard_target = optM (some _) _; refine optM_mk rfl ?_)))
   refine (bits_c H _ _).mono ?_
   rintro _ w1 ⟨rfl, h1⟩
   replace hS := hS.next h1
   rw [List.nil_append] at hS
   refine ⟨_, rfl, hS.cell hxb, ?_⟩
   (try simp only [List.cons_append, List.nil_append, List.append_assoc] at hS); (repeat (first | (with_reducible (refine ⟨_, hS.cell ‹_›, ?_⟩)) | (with_reducible (refine ⟨_, _, _, hS.cell ‹_›, ?_⟩)) | (with_reducible (refine ⟨hS.cell ‹_›, ?_⟩)) | ((with_reducible first | apply ldI hS | apply ldS hS | apply hldS hS | apply hldI hS | apply ldF hS | apply ldP hS | apply ldB hS | apply hldF hS); (case ha => exact rfl); (case he => (repeat (first | with_reducible exact List.mem_cons_self | with_reducible refine List.mem_cons_of_mem _ ?_))); (case hc => exact rfl)) | (guard_target = newM _ _ _ _; refine newM_i hS ?_; clear hS; intro _ w hS) | (guard_target = drM _ _; refine drM_i hS ?_; clear hS; intro w hS) | (guard_target = stM _ _ _ _; (first | refine st0 hS rfl rfl ?_ | refine st1 hS rfl rfl ?_ | refine st2 hS rfl rfl ?_ | refine st3 hS rfl rfl ?_ | refine st4 hS rfl rfl ?_ | refine st5 hS rfl rfl ?_ | refine st6 hS rfl rfl ?_ | refine st7 hS rfl rfl ?_); clear hS; intro w hS) | (guard_target = optM (some _) _; refine optM_mk rfl ?_)))
   refine (bits_c H _ _).mono ?_
   rintro _ w2 ⟨rfl, h2⟩
   replace hS := hS.next h2
   rw [List.nil_append] at hS
   refine ⟨_, rfl, cond_i (fun hb2 => ?_) (fun hb2 => ?_)⟩
   ·
    have hne : l.getD i 0 ≠ k.getD i 0 := fun e => by rw [e] at hb2; simp at hb2
    (try simp only [List.cons_append, List.nil_append, List.append_assoc] at hS); (repeat (first | (with_reducible (refine ⟨_, hS.cell ‹_›, ?_⟩)) | (with_reducible (refine ⟨_, _, _, hS.cell ‹_›, ?_⟩)) | (with_reducible (refine ⟨hS.cell ‹_›, ?_⟩)) | ((with_reducible first | apply ldI hS | apply ldS hS | apply hldS hS | apply hldI hS | apply ldF hS | apply ldP hS | apply ldB hS | apply hldF hS); (case ha => exact rfl); (case he => (repeat (first | with_reducible exact List.mem_cons_self | with_reducible refine List.mem_cons_of_mem _ ?_))); (case hc => exact rfl)) | (guard_target = newM _ _ _ _; refine newM_i hS ?_; clear hS; intro _ w hS) | (guard_target = drM _ _; refine drM_i hS ?_; clear hS; intro w hS) | (guard_target = stM _ _ _ _; (first | refine st0 hS rfl rfl ?_ | refine st1 hS rfl rfl ?_ | refine st2 hS rfl rfl ?_ | refine st3 hS rfl rfl ?_ | refine st4 hS rfl rfl ?_ | refine st5 hS rfl rfl ?_ | refine st6 hS rfl rfl ?_ | refine st7 hS rfl rfl ?_); clear hS; intro w hS) | (guard_target = optM (some _) _; refine optM_mk rfl ?_)))
    refine (isNaN_c H _ _).mono ?_
    rintro _ w3 ⟨rfl, h3⟩
    replace hS := hS.next h3
    rw [List.nil_append] at hS
    refine ⟨_, rfl, cond_i (fun hn1 => ?_) (fun hn1 => ?_)⟩
    ·
     refine ⟨by omega, by omega, optM_mk rfl ⟨_, hS.cell hxb, ?_⟩⟩
     (try simp only [List.cons_append, List.nil_append, List.append_assoc] at hS); (repeat (first | (with_reducible (refine ⟨_, hS.cell ‹_›, ?_⟩)) | (with_reducible (refine ⟨_, _, _, hS.cell ‹_›, ?_⟩)) | (with_reducible (refine ⟨hS.cell ‹_›, ?_⟩)) | ((with_reducible first | apply ldI hS | apply ldS hS | apply hldS hS | apply hldI hS | apply ldF hS | apply ldP hS | apply ldB hS | apply hldF hS); (case ha => exact rfl); (case he => (repeat (first | with_reducible exact List.mem_cons_self | with_reducible refine List.mem_cons_of_mem _ ?_))); (case hc => exact rfl)) | (guard_target = newM _ _ _ _; refine newM_i hS ?_; clear hS; intro _ w hS) | (guard_target = drM _ _; refine drM_i hS ?_; clear hS; intro w hS) | (guard_target = stM _ _ _ _; (first | refine st0 hS rfl rfl ?_ | refine st1 hS rfl rfl ?_ | refine st2 hS rfl rfl ?_ | refine st3 hS rfl rfl ?_ | refine st4 hS rfl rfl ?_ | refine st5 hS rfl rfl ?_ | refine st6 hS rfl rfl ?_ | refine st7 hS rfl rfl ?_); clear hS; intro w hS) | (guard_target = optM (some _) _; refine optM_mk rfl ?_)))
     refine (isNaN_c H _ _).mono ?_
     rintro _ w4 ⟨rfl, h4⟩
     replace hS := hS.next h4
     rw [List.nil_append] at hS
     refine ⟨_, rfl, ?_⟩
     (try simp only [List.cons_append, List.nil_append, List.append_assoc] at hS); (repeat (first | (with_reducible (refine ⟨_, hS.cell ‹_›, ?_⟩)) | (with_reducible (refine ⟨_, _, _, hS.cell ‹_›, ?_⟩)) | (with_reducible (refine ⟨hS.cell ‹_›, ?_⟩)) | ((with_reducible first | apply ldI hS | apply ldS hS | apply hldS hS | apply hldI hS | apply ldF hS | apply ldP hS | apply ldB hS | apply hldF hS); (case ha => exact rfl); (case he => (repeat (first | with_reducible exact List.mem_cons_self | with_reducible refine List.mem_cons_of_mem _ ?_))); (case hc => exact rfl)) | (guard_target = newM _ _ _ _; refine newM_i hS ?_; clear hS; intro _ w hS) | (guard_target = drM _ _; refine drM_i hS ?_; clear hS; intro w hS) | (guard_target = stM _ _ _ _; (first | refine st0 hS rfl rfl ?_ | refine st1 hS rfl rfl ?_ | refine st2 hS rfl rfl ?_ | refine st3 hS rfl rfl ?_ | refine st4 hS rfl rfl ?_ | refine st5 hS rfl rfl ?_ | refine st6 hS rfl rfl ?_ | refine st7 hS rfl rfl ?_); clear hS; intro w hS) | (guard_target = optM (some _) _; refine optM_mk rfl ?_)))
     refine cond_i (fun hn2 => ?_) (fun hn2 => ?_)
     ·
      simp only [Bool.not_eq_true'] at hn2
      exact ⟨hbad (fun e => by rcases nf_eq_iff.1 e with e | ⟨_, e⟩; exact hne e; rw [e] at hn2; cases hn2), hS⟩
     ·
      simp only [Bool.not_eq_false'] at hn2
      exact hadv (nf_eq_iff.2 (.inr ⟨hn1, hn2⟩)) _ hS
    ·
     (try simp only [List.cons_append, List.nil_append, List.append_assoc] at hS); (repeat (first | (with_reducible (refine ⟨_, hS.cell ‹_›, ?_⟩)) | (with_reducible (refine ⟨_, _, _, hS.cell ‹_›, ?_⟩)) | (with_reducible (refine ⟨hS.cell ‹_›, ?_⟩)) | ((with_reducible first | apply ldI hS | apply ldS hS | apply hldS hS | apply hldI hS | apply ldF hS | apply ldP hS | apply ldB hS | apply hldF hS); (case ha => exact rfl); (case he => (repeat (first | with_reducible exact List.mem_cons_self | with_reducible refine List.mem_cons_of_mem _ ?_))); (case hc => exact rfl)) | (guard_target = newM _ _ _ _; refine newM_i hS ?_; clear hS; intro _ w hS) | (guard_target = drM _ _; refine drM_i hS ?_; clear hS; intro w hS) | (guard_target = stM _ _ _ _; (first | refine st0 hS rfl rfl ?_ | refine st1 hS rfl rfl ?_ | refine st2 hS rfl rfl ?_ | refine st3 hS rfl rfl ?_ | refine st4 hS rfl rfl ?_ | refine st5 hS rfl rfl ?_ | refine st6 hS rfl rfl ?_ | refine st7 hS rfl rfl ?_); clear hS; intro w hS) | (guard_target = optM (some _) _; refine optM_mk rfl ?_)))
     exact ⟨hbad (fun e => by rcases nf_eq_iff.1 e with e | ⟨e, _⟩; exact hne e; rw [e] at hn1; cases hn1), hS⟩
   ·
    have he : l.getD i 0 = k.getD i 0 := by
     have h5 : (((l.getD i 0 : Nat) : Int) != ((k.getD i 0 : Nat) : Int)) = false := hb2
     have h6 : ((l.getD i 0 : Nat) : Int) = ((k.getD i 0 : Nat) : Int) := by
      rcases Decidable.em (((l.getD i 0 : Nat) : Int) = ((k.getD i 0 : Nat) : Int)) with h | h
      ·
       exact h
      ·
       rw [bne_iff_ne.2 h] at h5; cases h5
     exact Int.ofNat.inj h6
    (try simp only [List.cons_append, List.nil_append, List.append_assoc] at hS); (repeat (first | (with_reducible (refine ⟨_, hS.cell ‹_›, ?_⟩)) | (with_reducible (refine ⟨_, _, _, hS.cell ‹_›, ?_⟩)) | (with_reducible (refine ⟨hS.cell ‹_›, ?_⟩)) | ((with_reducible first | apply ldI hS | apply ldS hS | apply hldS hS | apply hldI hS | apply ldF hS | apply ldP hS | apply ldB hS | apply hldF hS); (case ha => exact rfl); (case he => (repeat (first | with_reducible exact List.mem_cons_self | with_reducible refine List.mem_cons_of_mem _ ?_))); (case hc => exact rfl)) | (guard_target = newM _ _ _ _; refine newM_i hS ?_; clear hS; intro _ w hS) | (guard_target = drM _ _; refine drM_i hS ?_; clear hS; intro w hS) | (guard_target = stM _ _ _ _; (first | refine st0 hS rfl rfl ?_ | refine st1 hS rfl rfl ?_ | refine st2 hS rfl rfl ?_ | refine st3 hS rfl rfl ?_ | refine st4 hS rfl rfl ?_ | refine st5 hS rfl rfl ?_ | refine st6 hS rfl rfl ?_ | refine st7 hS rfl rfl ?_); clear hS; intro w hS) | (guard_target = optM (some _) _; refine optM_mk rfl ?_)))
    exact hadv (by rw [he]) _ hS
  ·
   have hge : n ≤ i := by simpa using hb1
   refine hJ _ _ ⟨?_, hS⟩
   apply List.ext_getElem
   ·
    simp; omega
   ·
    intro j h1 h2
    simp at h1 h2
    have := hall j (by omega)
    simpa [List.getD_eq_getElem?_getD, h1, h2] using this
end
variable {N : Nums} {P : Program} (H : AllOk N P) {w0 w : World} {L : List It} {K : Value → World → Prop}
include H
theorem wk_vector_Axpy_1 {q0 q1 r_2 q2 u0} (hS : Ho w0 w L) (eq2 : Ent L (cl r_2 [.float .f64 q2] N.t_float64).A) (h : T_vector_Axpy_1 (nf q0) (nf q1) (nf q2) = some u0) (hK : ∀ (z0 : Nat) (w1 : World), nf z0 = u0 → Ho w0 w1 L → K (.float .f64 z0) w1) : CallsX P N.f_vector_Axpy_1 #[.float .f64 q0, .float .f64 q1, .pointer (some ⟨r_2, 0, none⟩)] w K := by
 refine H.vector_Axpy_1 q0 q1 (some ⟨r_2, 0, none⟩) w _ ?_
 unfold S_vector_Axpy_1
 unfold T_vector_Axpy_1 at h
 try dsimp only
 refine optM_s ?_
 refine ⟨_, (eq2.cel (fun _ h => h) hS rfl), ?_⟩
 obtain ⟨t1, ht1, h⟩ := bnd h
 refine fmul_s ht1 hS ?_; rintro z1 w rfl hS
 obtain ⟨t2, ht2, h⟩ := bnd h
 refine fadd_s ht2 hS ?_; rintro z2 w rfl hS
 cases some_inj h
 exact hK _ _ rfl hS
theorem wk_vector_fit {q0 q0l q0c ws0 q1 q1l q1c ws1 u0} (hS : Ho w0 w L) (hq0 : EF L ws0 q0 q0l q0c) (hq1 : EF L ws1 q1 q1l q1c) (h : T_vector_fit (List.map nf ws0) (List.map nf ws1) = some u0) (hK : ∀ w1, Ho w0 w1 L → K (.int .i64 u0) w1) : CallsX P N.f_vector_fit #[.slice q0 q0l q0c, .slice q1 q1l q1c] w K := by
 refine H.vector_fit q0 q0l q0c q1 q1l q1c w _ ?_
 unfold S_vector_fit
 unfold T_vector_fit at h
 try dsimp only
 obtain ⟨t1, ht1, h⟩ := bnd h
 obtain rfl := lenF ht1 (hq0.now (fun _ h => h) hS)
 obtain ⟨t2, ht2, h⟩ := bnd h
 obtain rfl := lenF ht2 (hq1.now (fun _ h => h) hS)
 refine cond_s h ?_ ?_ <;> intro hc h
 ·
  cases some_inj h
  exact hK _ hS
 obtain ⟨t3, ht3, h⟩ := bnd h
 obtain rfl := lenF ht3 (hq0.now (fun _ h => h) hS)
 refine cond_s h ?_ ?_ <;> intro hc h
 ·
  cases some_inj h
  exact hK _ hS
 cases some_inj h
 exact hK _ hS
theorem wk_vector_each {q0 q0l q0c ws0 q1 q1l q1c ws1} {q2 : Value} {f2 : Nat → Nat → Option Nat} {u0 u1} (hS : Ho w0 w L) (hq0 : EF L ws0 q0 q0l q0c) (hq1 : EF L ws1 q1 q1l q1c) (hf2 : ∀ (v0 : Nat) (v1 : Nat) (w : World) (L1 : List It) (r1 : Nat) (K : Value → World → Prop), (∀ e, e ∈ L → e ∈ L1) → f2 (nf v0) (nf v1) = some r1 → Ho w0 w L1 → (∀ (z : Nat) (w1 : World), nf z = r1 → Ho w0 w1 L1 → K (.float .f64 z) w1) → fnM q2 fun g gp gq => CallsX P g (gp.toList ++ (([.float .f64 v0, .float .f64 v1] : List Value) ++ gq.toList)).toArray w K) (h : T_vector_each (List.map nf ws0) (List.map nf ws1) f2 = some (u0, u1)) (hK : ∀ (a0 : Option Addr) (n0 c0 : Nat) (rws0 : List Nat) (w1 : World), List.map nf rws0 = u0 → Ho w0 w1 ((sl a0 n0 c0 (List.map (Value.float .f64) rws0) N.t_float64) :: L) → K (.tuple #[.slice a0 n0 c0, .int .i64 u1]) w1) : CallsX P N.f_vector_each #[.slice q0 q0l q0c, .slice q1 q1l q1c, q2] w K := by
 refine H.vector_each q0 q0l q0c q1 q1l q1c q2 w _ ?_
 unfold S_vector_each
 unfold T_vector_each at h
 try dsimp only
 obtain ⟨t1, ht1, h⟩ := bnd h
 refine wk_vector_fit H hS hq0 hq1 ht1 ?_; rintro w hS
 refine ⟨_, rfl, ?_⟩
 refine cond_s h ?_ ?_ <;> intro hc h
 ·
  replace hS := hS.none (α := Nat) (enc := (Value.float .f64)) (t := N.t_float64)
  cases some_inj h
  exact hK _ _ _ _ _ rfl hS
 obtain ⟨t2, ht2, h⟩ := bnd h
 obtain rfl := lenF ht2 (hq0.now (fun _ h => h) hS)
 obtain ⟨t3, ht3, h⟩ := bnd h
 obtain ⟨rfl, kt3⟩ := mkF ht3
 refine mk_s (enc := (Value.float .f64)) hS kt3 rfl ?_; clear hS kt3; intro r1 w hS
 obtain ⟨t4, ht4, h⟩ := bnd h
 obtain rfl := lenF ht4 ((hq0.mono tl1).now (fun _ h => h) hS)
 obtain ⟨o3, h3, c3⟩ := bnd h
 refine cutM_i (fun s w => ∃ (ws2 : List Nat), (List.map nf ws2) = o3 ∧ s = (()) ∧ Ho w0 w ((sl (some ⟨r1, 0, none⟩) ((((q0l : Nat) : Int)).toNat) ((((q0l : Nat) : Int)).toNat) (List.map (Value.float .f64) ws2) N.t_float64) :: L)) (fun J3 hJ3 => ?_) ?_
 ·
  have h := h3
  clear h3
  refine iter_sim (fun s w t => ∃ (t6 : Int) (ws4 : List Nat), (t6, (List.map nf ws4)) = t ∧ s = (t6, ()) ∧ Ho w0 w ((sl (some ⟨r1, 0, none⟩) ((((q0l : Nat) : Int)).toNat) ((((q0l : Nat) : Int)).toNat) (List.map (Value.float .f64) ws4) N.t_float64) :: L)) ?_ h ⟨_, _, rfl, rfl, hS⟩
  clear h hS
  rintro s w t X q ⟨t6, ws4, rfl, rfl, hS⟩ h hX hO
  unfold T_vector_each_b2 at h
  try dsimp only
  refine cond_s h ?_ ?_ <;> intro hc h
  ·
   obtain ⟨t8, ht8, h⟩ := bnd h
   obtain ⟨z5, rfl, q6x, q6l, q6r⟩ := atF ht8
   refine idx_s ((hq0.mono tl1).now (fun _ h => h) hS) q6x q6l q6r ?_; intro b7 hb7
   refine ⟨_, rd_get ((hq0.mono tl1).now (fun _ h => h) hS) hb7 q6x, ?_⟩
   obtain ⟨t9, ht9, h⟩ := bnd h
   obtain ⟨z8, rfl, q9x, q9l, q9r⟩ := atF ht9
   refine idx_s ((hq1.mono tl1).now (fun _ h => h) hS) q9x q9l q9r ?_; intro b10 hb10
   refine ⟨_, rd_get ((hq1.mono tl1).now (fun _ h => h) hS) hb10 q9x, ?_⟩
   refine drM_s hS ?_; intro w hS
   obtain ⟨t10, ht10, h⟩ := bnd h
   refine hf2 _ _ _ _ _ _ tl1 ht10 hS ?_; rintro z11 w rfl hS
   refine ⟨_, rfl, ?_⟩
   obtain ⟨t11, ht11, h⟩ := bnd h
   obtain ⟨z12, rfl, q13x, q13l, q13r⟩ := atF ht11
   refine idy_s ((Ent.sl mp0).now (fun _ h => h) hS) q13x q13l q13r ?_
   refine drM_s hS ?_; intro w hS
   obtain ⟨t12, ht12, h⟩ := bnd h
   obtain rfl := setF ht12
   refine sto_s hS rfl q13r ?_; intro w hS
   refine drM_s hS ?_; intro w hS
   obtain rfl := some_inj h
   exact hX _ rfl _ _ ⟨_, _, rfl, rfl, hS⟩
  obtain rfl := some_inj h
  have h := congrArg some (hO _ rfl)
  obtain rfl := some_inj h
  exact hJ3 _ _ ⟨_, rfl, rfl, hS⟩
 clear h3 hS
 rintro s w ⟨ws2, rfl, rfl, hS⟩
 have h := c3
 clear c3
 try dsimp only
 cases some_inj h
 exact hK _ _ _ _ _ rfl hS
theorem wk_vector_Axpy {q0 q1 q1l q1c ws1 q2 q2l q2c ws2 u0 u1} (hS : Ho w0 w L) (hq1 : EF L ws1 q1 q1l q1c) (hq2 : EF L ws2 q2 q2l q2c) (hx : T_vector_Axpy (nf q0) (List.map nf ws1) (List.map nf ws2) = some (u0, u1)) (hK : ∀ (a0 : Option Addr) (n0 c0 : Nat) (rws0 : List Nat) (w1 : World), List.map nf rws0 = u0 → Ho w0 w1 ((sl a0 n0 c0 (List.map (Value.float .f64) rws0) N.t_float64) :: L) → K (.tuple #[.slice a0 n0 c0, .int .i64 u1]) w1) : CallsX P N.f_vector_Axpy #[.float .f64 q0, .slice q1 q1l q1c, .slice q2 q2l q2c] w K := by
 refine H.vector_Axpy q0 q1 q1l q1c q2 q2l q2c w _ ?_
 unfold S_vector_Axpy
 unfold T_vector_Axpy at hx
 have h := hx
 clear hx
 try dsimp only
 refine newM_s hS ?_; intro r1 w hS
 obtain ⟨⟨t1, t2⟩, ho1, h⟩ := bnd h
 refine wk_vector_each H hS (hq1.mono tl1) (hq2.mono tl1) (by intro v0 v1 w L1 r1 K hL hx hS hK; exact wk_vector_Axpy_1 H hS ((Ent.of mp0).mono hL) hx hK) ho1 ?_; clear hS ho1; rintro a2 m2 c2 ws2 w rfl hS
 refine ⟨_, _, _, _, rfl, ?_⟩
 cases some_inj h
 exact hK _ _ _ _ _ rfl (hS.pick (A := [_, _]) [0] rfl)
theorem wk_vector_Dot {q0 q0l q0c ws0 q1 q1l q1c ws1 u0 u1} (hS : Ho w0 w L) (hq0 : EF L ws0 q0 q0l q0c) (hq1 : EF L ws1 q1 q1l q1c) (h : T_vector_Dot (List.map nf ws0) (List.map nf ws1) = some (u0, u1)) (hK : ∀ (z0 : Nat) (w1 : World), nf z0 = u0 → Ho w0 w1 L → K (.tuple #[.float .f64 z0, .int .i64 u1]) w1) : CallsX P N.f_vector_Dot #[.slice q0 q0l q0c, .slice q1 q1l q1c] w K := by
 refine H.vector_Dot q0 q0l q0c q1 q1l q1c w _ ?_
 unfold S_vector_Dot
 unfold T_vector_Dot at h
 try dsimp only
 obtain ⟨t1, ht1, h⟩ := bnd h
 refine wk_vector_fit H hS hq0 hq1 ht1 ?_; rintro w hS
 refine ⟨_, rfl, ?_⟩
 refine cond_s h ?_ ?_ <;> intro hc h
 ·
  cases some_inj h
  exact hK _ _ rfl hS
 obtain ⟨t2, ht2, h⟩ := bnd h
 obtain rfl := lenF ht2 (hq0.now (fun _ h => h) hS)
 obtain ⟨o2, h2, c2⟩ := bnd h
 refine cutM_i (fun s w => ∃ (z1 : Nat), (nf z1) = o2 ∧ s = (z1, ()) ∧ Ho w0 w L) (fun J2 hJ2 => ?_) ?_
 ·
  have h := h2
  clear h2
  refine iter_sim (fun s w t => ∃ (z3 : Nat) (t5 : Int), ((nf z3), t5) = t ∧ s = (z3, t5, ()) ∧ Ho w0 w L) ?_ h ⟨_, _, rfl, rfl, hS⟩
  clear h hS
  rintro s w t X q ⟨z3, t5, rfl, rfl, hS⟩ h hX hO
  unfold T_vector_Dot_b2 at h
  try dsimp only
  refine cond_s h ?_ ?_ <;> intro hc h
  ·
   obtain ⟨t6, ht6, h⟩ := bnd h
   obtain ⟨z4, rfl, q5x, q5l, q5r⟩ := atF ht6
   refine idx_s (hq0.now (fun _ h => h) hS) q5x q5l q5r ?_; intro b6 hb6
   refine ⟨_, rd_get (hq0.now (fun _ h => h) hS) hb6 q5x, ?_⟩
   obtain ⟨t7, ht7, h⟩ := bnd h
   obtain ⟨z7, rfl, q8x, q8l, q8r⟩ := atF ht7
   refine idx_s (hq1.now (fun _ h => h) hS) q8x q8l q8r ?_; intro b9 hb9
   refine ⟨_, rd_get (hq1.now (fun _ h => h) hS) hb9 q8x, ?_⟩
   obtain ⟨t8, ht8, h⟩ := bnd h
   refine fmul_s ht8 hS ?_; clear ht8; rintro z10 _ rfl _
   obtain ⟨t9, ht9, h⟩ := bnd h
   refine fadd_s ht9 hS ?_; clear ht9; rintro z11 _ rfl _
   refine drM_s hS ?_; intro w hS
   obtain rfl := some_inj h
   exact hX _ rfl _ _ ⟨_, _, rfl, rfl, hS⟩
  obtain rfl := some_inj h
  have h := congrArg some (hO _ rfl)
  obtain rfl := some_inj h
  exact hJ2 _ _ ⟨_, rfl, rfl, hS⟩
 clear h2 hS
 rintro s w ⟨z1, rfl, rfl, hS⟩
 have h := c2
 clear c2
 try dsimp only
 cases some_inj h
 exact hK _ _ rfl hS
theorem wk_math_Float64bits {q0 u0} (hS : Ho w0 w L)  (hx : T_math_Float64bits (nf q0) = some u0) (hK : ∀ w1, Ho w0 w1 L → K (.int .u64 u0) w1) : CallsX P N.f_math_Float64bits #[.float .f64 q0] w K := by
 unfold T_math_Float64bits at hx
 have hn : isNaN q0 = false := by
  cases e : isNaN q0 with
  | false => rfl
  | true => rw [isNaN_nf, e] at hx; cases hx
 rw [isNaN_nf, hn, nf_of_not hn] at hx
 have hx := some_inj hx
 subst hx
 exact H.math_Float64bits q0 w _ (hK _ hS)
theorem wk_math_Float64frombits {q0 u0} (hS : Ho w0 w L)  (hx : T_math_Float64frombits q0 = some u0) (hK : ∀ (z0 : Nat) (w1 : World), nf z0 = u0 → Ho w0 w1 L → K (.float .f64 z0) w1) : CallsX P N.f_math_Float64frombits #[.int .u64 q0] w K := by
 unfold T_math_Float64frombits at hx
 have hx := some_inj hx
 exact H.math_Float64frombits q0 w _ (hK _ _ hx hS)
theorem wk_math_Abs {q0 u0} (hS : Ho w0 w L)  (hx : T_math_Abs (nf q0) = some u0) (hK : ∀ (z0 : Nat) (w1 : World), nf z0 = u0 → Ho w0 w1 L → K (.float .f64 z0) w1) : CallsX P N.f_math_Abs #[.float .f64 q0] w K := by
 unfold T_math_Abs at hx
 have hx := some_inj hx
 refine (abs_c H q0 w).mono ?_
 rintro _ w1 ⟨rfl, h1⟩
 exact hK _ _ ((nf_magF q0).symm.trans hx) (hS.next h1)
theorem wk_vector_Most {q0 q0l q0c ws0 u0 u1} (hS : Ho w0 w L) (hq0 : EF L ws0 q0 q0l q0c) (h : T_vector_Most (List.map nf ws0) = some (u0, u1)) (hK : ∀ (z1 : Nat) (w1 : World), nf z1 = u1 → Ho w0 w1 L → K (.tuple #[.int .i64 u0, .float .f64 z1]) w1) : CallsX P N.f_vector_Most #[.slice q0 q0l q0c] w K := by
 refine H.vector_Most q0 q0l q0c w _ ?_
 unfold S_vector_Most
 unfold T_vector_Most at h
 try dsimp only
 obtain ⟨t1, ht1, h⟩ := bnd h
 obtain rfl := lenF ht1 (hq0.now (fun _ h => h) hS)
 obtain ⟨o2, h2, c2⟩ := bnd h
 refine cutM_i (fun s w => ∃ (t2 : Int) (z1 : Nat), (t2, (nf z1)) = o2 ∧ s = (t2, z1, ()) ∧ Ho w0 w L) (fun J2 hJ2 => ?_) ?_
 ·
  have h := h2
  clear h2
  refine iter_sim (fun s w t => ∃ (t4 : Int) (z3 : Nat) (t6 : Int), (t4, (nf z3), t6) = t ∧ s = (t4, z3, t6, ()) ∧ Ho w0 w L) ?_ h ⟨_, _, _, rfl, rfl, hS⟩
  clear h hS
  rintro s w t X q ⟨t4, z3, t6, rfl, rfl, hS⟩ h hX hO
  unfold T_vector_Most_b2 at h
  try dsimp only
  refine cond_s h ?_ ?_ <;> intro hc h
  ·
   obtain ⟨o5, h5, c5⟩ := bnd h
   refine cutM_i (fun s w => ∃ (t7 : Int) (z4 : Nat), (t7, (nf z4)) = o5 ∧ s = (t7, z4, ()) ∧ Ho w0 w L) (fun J5 hJ5 => ?_) ?_
   ·
    have h := h5
    clear h5
    obtain ⟨t9, ht9, h⟩ := bnd h
    obtain ⟨z6, rfl, q7x, q7l, q7r⟩ := atF ht9
    refine idx_s (hq0.now (fun _ h => h) hS) q7x q7l q7r ?_; intro b8 hb8
    refine ⟨_, rd_get (hq0.now (fun _ h => h) hS) hb8 q7x, ?_⟩
    obtain ⟨t10, ht10, h⟩ := bnd h
    refine wk_math_Abs H hS  ht10 ?_; rintro z9 w rfl hS
    refine ⟨_, rfl, ?_⟩
    obtain ⟨t11, ht11, h⟩ := bnd h
    obtain rfl := fgt_s ht11
    refine cond_s h ?_ ?_ <;> intro hc h
    ·
     refine cond_s h ?_ ?_ <;> intro hc h
     ·
      obtain ⟨t12, ht12, h⟩ := bnd h
      obtain rfl := feq_s ht12
      obtain ⟨o11, h11, c11⟩ := bnd h
      refine cutM_i (fun s w => ∃ (t13 : Int) (z10 : Nat), (t13, (nf z10)) = o11 ∧ s = (t13, z10, ()) ∧ Ho w0 w L) (fun J11 hJ11 => ?_) ?_
      ·
       have h := h11
       clear h11
       refine cond_s h ?_ ?_ <;> intro hc h
       ·
        obtain rfl := some_inj h
        exact hJ11 _ _ ⟨_, _, rfl, rfl, hS⟩
       obtain rfl := some_inj h
       exact hJ11 _ _ ⟨_, _, rfl, rfl, hS⟩
      clear h11 hS
      rintro s w ⟨t13, z10, rfl, rfl, hS⟩
      have h := c11
      clear c11
      try dsimp only
      obtain rfl := some_inj h
      exact hJ5 _ _ ⟨_, _, rfl, rfl, hS⟩
     obtain ⟨o13, h13, c13⟩ := bnd h
     refine cutM_i (fun s w => ∃ (t15 : Int) (z12 : Nat), (t15, (nf z12)) = o13 ∧ s = (t15, z12, ()) ∧ Ho w0 w L) (fun J13 hJ13 => ?_) ?_
     ·
      have h := h13
      clear h13
      obtain rfl := some_inj h
      exact hJ13 _ _ ⟨_, _, rfl, rfl, hS⟩
     clear h13 hS
     rintro s w ⟨t15, z12, rfl, rfl, hS⟩
     have h := c13
     clear c13
     try dsimp only
     obtain rfl := some_inj h
     exact hJ5 _ _ ⟨_, _, rfl, rfl, hS⟩
    obtain ⟨o15, h15, c15⟩ := bnd h
    refine cutM_i (fun s w => ∃ (t17 : Int) (z14 : Nat), (t17, (nf z14)) = o15 ∧ s = (t17, z14, ()) ∧ Ho w0 w L) (fun J15 hJ15 => ?_) ?_
    ·
     have h := h15
     clear h15
     obtain rfl := some_inj h
     exact hJ15 _ _ ⟨_, _, rfl, rfl, hS⟩
    clear h15 hS
    rintro s w ⟨t17, z14, rfl, rfl, hS⟩
    have h := c15
    clear c15
    try dsimp only
    obtain rfl := some_inj h
    exact hJ5 _ _ ⟨_, _, rfl, rfl, hS⟩
   clear h5 hS
   rintro s w ⟨t7, z4, rfl, rfl, hS⟩
   have h := c5
   clear c5
   try dsimp only
   obtain rfl := some_inj h
   exact hX _ rfl _ _ ⟨_, _, _, rfl, rfl, hS⟩
  obtain rfl := some_inj h
  have h := congrArg some (hO _ rfl)
  obtain rfl := some_inj h
  exact hJ2 _ _ ⟨_, _, rfl, rfl, hS⟩
 clear h2 hS
 rintro s w ⟨t2, z1, rfl, rfl, hS⟩
 have h := c2
 clear c2
 try dsimp only
 cases some_inj h
 exact hK _ _ rfl hS
theorem wk_k_SameFloat {q0 q1 u0} (hS : Ho w0 w L)  (hx : T_k_SameFloat (nf q0) (nf q1) = some u0) (hK : ∀ w1, Ho w0 w1 L → K (.bool u0) w1) : CallsX P N.f_k_SameFloat #[.float .f64 q0, .float .f64 q1] w K := by
 unfold T_k_SameFloat at hx
 have hx := some_inj hx
 subst hx
 refine (sameFloat_c H q0 q1 w).mono ?_
 rintro _ w1 ⟨rfl, h1⟩
 exact hK _ (hS.next h1)
theorem wk_k_SameReals {q0 q0l q0c ws0 q1 q1l q1c ws1 u0} (hS : Ho w0 w L) (hq0 : EF L ws0 q0 q0l q0c) (hq1 : EF L ws1 q1 q1l q1c) (h : T_k_SameReals (List.map nf ws0) (List.map nf ws1) = some u0) (hK : ∀ w1, Ho w0 w1 L → K (.bool u0) w1) : CallsX P N.f_k_SameReals #[.slice q0 q0l q0c, .slice q1 q1l q1c] w K := by
 refine H.k_SameReals q0 q0l q0c q1 q1l q1c w _ ?_
 unfold S_k_SameReals
 unfold T_k_SameReals at h
 try dsimp only
 obtain ⟨t1, ht1, h⟩ := bnd h
 obtain rfl := lenF ht1 (hq0.now (fun _ h => h) hS)
 obtain ⟨t2, ht2, h⟩ := bnd h
 obtain rfl := lenF ht2 (hq1.now (fun _ h => h) hS)
 refine cond_s h ?_ ?_ <;> intro hc h
 ·
  cases some_inj h
  exact hK _ hS
 obtain ⟨o1, h1, c1⟩ := bnd h
 refine cutM_i (fun s w =>  .inl () = o1 ∧ s = (()) ∧ Ho w0 w L) (fun J1 hJ1 => ?_) ?_
 ·
  have h := h1
  clear h1
  refine iter_sim (fun s w t => ∃ (t3 : Int), t3 = t ∧ s = (t3, ()) ∧ Ho w0 w L) ?_ h ⟨_, rfl, rfl, hS⟩
  clear h hS
  rintro s w t X q ⟨t3, rfl, rfl, hS⟩ h hX hO
  unfold T_k_SameReals_b2 at h
  try dsimp only
  obtain ⟨t4, ht4, h⟩ := bnd h
  obtain rfl := lenF ht4 (hq0.now (fun _ h => h) hS)
  refine cond_s h ?_ ?_ <;> intro hc h
  ·
   obtain ⟨t5, ht5, h⟩ := bnd h
   obtain ⟨z2, rfl, q3x, q3l, q3r⟩ := atF ht5
   refine idx_s (hq0.now (fun _ h => h) hS) q3x q3l q3r ?_; intro b4 hb4
   refine ⟨_, rd_get (hq0.now (fun _ h => h) hS) hb4 q3x, ?_⟩
   obtain ⟨t6, ht6, h⟩ := bnd h
   obtain ⟨z5, rfl, q6x, q6l, q6r⟩ := atF ht6
   refine idx_s (hq1.now (fun _ h => h) hS) q6x q6l q6r ?_; intro b7 hb7
   refine ⟨_, rd_get (hq1.now (fun _ h => h) hS) hb7 q6x, ?_⟩
   refine drM_s hS ?_; intro w hS
   obtain ⟨t7, ht7, h⟩ := bnd h
   refine wk_k_SameFloat H hS  ht7 ?_; rintro w hS
   refine ⟨_, rfl, ?_⟩
   refine drM_s hS ?_; intro w hS
   refine cond_s h ?_ ?_ <;> intro hc h
   ·
    obtain rfl := some_inj h
    have h := congrArg some (hO _ rfl)
    obtain rfl := some_inj h
    have h := c1
    cases some_inj h
    exact hK _ hS
   obtain rfl := some_inj h
   exact hX _ rfl _ _ ⟨_, rfl, rfl, hS⟩
  obtain rfl := some_inj h
  have h := congrArg some (hO _ rfl)
  obtain rfl := some_inj h
  exact hJ1 _ _ ⟨rfl, rfl, hS⟩
 clear h1 hS
 rintro s w ⟨rfl, rfl, hS⟩
 have h := c1
 clear c1
 try dsimp only
 cases some_inj h
 exact hK _ hS
theorem wk_round_way {q0 u0} (hS : Ho w0 w L)  (h : T_round_way q0 = some u0) (hK : ∀ w1, Ho w0 w1 L → K (.int .i8 u0) w1) : CallsX P N.f_round_way #[.int .i8 q0] w K := by
 refine H.round_way q0 w _ ?_
 unfold S_round_way
 unfold T_round_way at h
 try dsimp only
 refine cond_s h ?_ ?_ <;> intro hc h
 ·
  refine cond_s h ?_ ?_ <;> intro hc h
  ·
   cases some_inj h
   exact hK _ hS
  cases some_inj h
  exact hK _ hS
 cases some_inj h
 exact hK _ hS
theorem wk_math_IsNaN {q0 u0} (hS : Ho w0 w L)  (h : T_math_IsNaN (nf q0) = some u0) (hK : ∀ w1, Ho w0 w1 L → K (.bool u0) w1) : CallsX P N.f_math_IsNaN #[.float .f64 q0] w K := by
 refine H.math_IsNaN q0 w _ ?_
 unfold S_math_IsNaN
 unfold T_math_IsNaN at h
 try dsimp only
 obtain ⟨t1, ht1, h⟩ := bnd h
 obtain rfl := fne_s ht1
 cases some_inj h
 exact hK _ hS
theorem wk_math_IsInf {q0 q1 u0} (hS : Ho w0 w L)  (h : T_math_IsInf (nf q0) q1 = some u0) (hK : ∀ w1, Ho w0 w1 L → K (.bool u0) w1) : CallsX P N.f_math_IsInf #[.float .f64 q0, .int .i64 q1] w K := by
 refine H.math_IsInf q0 q1 w _ ?_
 unfold S_math_IsInf
 unfold T_math_IsInf at h
 try dsimp only
 obtain ⟨o2, h2, c2⟩ := bnd h
 refine cutM_i (fun s w => ∃ (z1 : Nat), (nf z1) = o2 ∧ s = (z1, ()) ∧ Ho w0 w L) (fun J2 hJ2 => ?_) ?_
 ·
  have h := h2
  clear h2
  refine cond_s h ?_ ?_ <;> intro hc h
  ·
   obtain ⟨t2, ht2, h⟩ := bnd h
   refine wk_math_Abs H hS  ht2 ?_; rintro z3 w rfl hS
   refine ⟨_, rfl, ?_⟩
   obtain rfl := some_inj h
   exact hJ2 _ _ ⟨_, rfl, rfl, hS⟩
  obtain ⟨o5, h5, c5⟩ := bnd h
  refine cutM_i (fun s w => ∃ (z4 : Nat), (nf z4) = o5 ∧ s = (z4, ()) ∧ Ho w0 w L) (fun J5 hJ5 => ?_) ?_
  ·
   have h := h5
   clear h5
   refine cond_s h ?_ ?_ <;> intro hc h
   ·
    obtain ⟨t4, ht4, h⟩ := bnd h
    obtain rfl := fneg_s ht4
    obtain rfl := some_inj h
    exact hJ5 _ _ ⟨_, rfl, rfl, hS⟩
   obtain rfl := some_inj h
   exact hJ5 _ _ ⟨_, rfl, rfl, hS⟩
  clear h5 hS
  rintro s w ⟨z4, rfl, rfl, hS⟩
  have h := c5
  clear c5
  try dsimp only
  obtain rfl := some_inj h
  exact hJ2 _ _ ⟨_, rfl, rfl, hS⟩
 clear h2 hS
 rintro s w ⟨z1, rfl, rfl, hS⟩
 have h := c2
 clear c2
 try dsimp only
 obtain ⟨t5, ht5, h⟩ := bnd h
 obtain rfl := fgt_s ht5
 cases some_inj h
 exact hK _ hS
theorem wk_round_finite {q0 q0l q0c ws0 u0} (hS : Ho w0 w L) (hq0 : EF L ws0 q0 q0l q0c) (h : T_round_finite (List.map nf ws0) = some u0) (hK : ∀ w1, Ho w0 w1 L → K (.bool u0) w1) : CallsX P N.f_round_finite #[.slice q0 q0l q0c] w K := by
 refine H.round_finite q0 q0l q0c w _ ?_
 unfold S_round_finite
 unfold T_round_finite at h
 try dsimp only
 obtain ⟨t1, ht1, h⟩ := bnd h
 obtain rfl := lenF ht1 (hq0.now (fun _ h => h) hS)
 obtain ⟨o1, h1, c1⟩ := bnd h
 refine cutM_i (fun s w =>  .inl () = o1 ∧ s = (()) ∧ Ho w0 w L) (fun J1 hJ1 => ?_) ?_
 ·
  have h := h1
  clear h1
  refine iter_sim (fun s w t => ∃ (t2 : Int), t2 = t ∧ s = (t2, ()) ∧ Ho w0 w L) ?_ h ⟨_, rfl, rfl, hS⟩
  clear h hS
  rintro s w t X q ⟨t2, rfl, rfl, hS⟩ h hX hO
  unfold T_round_finite_b2 at h
  try dsimp only
  refine cond_s h ?_ ?_ <;> intro hc h
  ·
   obtain ⟨t3, ht3, h⟩ := bnd h
   obtain ⟨z2, rfl, q3x, q3l, q3r⟩ := atF ht3
   refine idx_s (hq0.now (fun _ h => h) hS) q3x q3l q3r ?_; intro b4 hb4
   refine ⟨_, rd_get (hq0.now (fun _ h => h) hS) hb4 q3x, ?_⟩
   obtain ⟨t4, ht4, h⟩ := bnd h
   refine wk_math_IsNaN H hS  ht4 ?_; rintro w hS
   refine ⟨_, rfl, ?_⟩
   refine cond_s h ?_ ?_ <;> intro hc h
   ·
    obtain ⟨t5, ht5, h⟩ := bnd h
    refine wk_math_IsInf H hS  ht5 ?_; rintro w hS
    refine ⟨_, rfl, ?_⟩
    refine cond_s h ?_ ?_ <;> intro hc h
    ·
     obtain rfl := some_inj h
     have h := congrArg some (hO _ rfl)
     obtain rfl := some_inj h
     have h := c1
     cases some_inj h
     exact hK _ hS
    obtain rfl := some_inj h
    exact hX _ rfl _ _ ⟨_, rfl, rfl, hS⟩
   obtain rfl := some_inj h
   have h := congrArg some (hO _ rfl)
   obtain rfl := some_inj h
   have h := c1
   cases some_inj h
   exact hK _ hS
  obtain rfl := some_inj h
  have h := congrArg some (hO _ rfl)
  obtain rfl := some_inj h
  exact hJ1 _ _ ⟨rfl, rfl, hS⟩
 clear h1 hS
 rintro s w ⟨rfl, rfl, hS⟩
 have h := c1
 clear c1
 try dsimp only
 cases some_inj h
 exact hK _ hS
theorem wk_math_Signbit {q0 u0} (hS : Ho w0 w L)  (hx : T_math_Signbit (nf q0) = some u0) (hK : ∀ w1, Ho w0 w1 L → K (.bool u0) w1) : CallsX P N.f_math_Signbit #[.float .f64 q0] w K := by
 unfold T_math_Signbit at hx
 have hn : isNaN q0 = false := by
  cases e : isNaN q0 with
  | false => rfl
  | true => rw [isNaN_nf, e] at hx; cases hx
 rw [isNaN_nf, hn, nf_of_not hn] at hx
 have hx := some_inj hx
 subst hx
 refine (signbit_c H q0 w).mono ?_
 rintro _ w1 ⟨rfl, h1⟩
 exact hK _ (hS.next h1)
theorem wk_math_Copysign {q0 q1 u0} (hS : Ho w0 w L)  (hx : T_math_Copysign (nf q0) (nf q1) = some u0) (hK : ∀ (z0 : Nat) (w1 : World), nf z0 = u0 → Ho w0 w1 L → K (.float .f64 z0) w1) : CallsX P N.f_math_Copysign #[.float .f64 q0, .float .f64 q1] w K := by
 unfold T_math_Copysign at hx
 have hn : isNaN q1 = false := by
  cases e : isNaN q1 with
  | false => rfl
  | true => rw [isNaN_nf, e] at hx; cases hx
 rw [isNaN_nf, hn, nf_of_not hn] at hx
 have hx := some_inj hx
 refine (copysign_c H q0 q1 w).mono ?_
 rintro _ w1 ⟨rfl, h1⟩
 exact hK _ _ ((nf_copy _ _).symm.trans hx) (hS.next h1)
theorem wk_round_none {q0 u0} (hS : Ho w0 w L)  (h : T_round_none q0 = some u0) (hK : ∀ (z0 : Nat) (w1 : World), nf z0 = u0 → Ho w0 w1 L → K (.float .f64 z0) w1) : CallsX P N.f_round_none #[.int .i8 q0] w K := by
 refine H.round_none q0 w _ ?_
 unfold S_round_none
 unfold T_round_none at h
 try dsimp only
 refine cond_s h ?_ ?_ <;> intro hc h
 ·
  obtain ⟨t1, ht1, h⟩ := bnd h
  refine wk_math_Copysign H hS  ht1 ?_; rintro z1 w rfl hS
  refine ⟨_, rfl, ?_⟩
  cases some_inj h
  exact hK _ _ rfl hS
 cases some_inj h
 exact hK _ _ rfl hS
theorem wk_round_step {q0 q1 u0} (hS : Ho w0 w L)  (h : T_round_step (nf q0) q1 = some u0) (hK : ∀ (z0 : Nat) (w1 : World), nf z0 = u0 → Ho w0 w1 L → K (.float .f64 z0) w1) : CallsX P N.f_round_step #[.float .f64 q0, .bool q1] w K := by
 refine H.round_step q0 q1 w _ ?_
 unfold S_round_step
 unfold T_round_step at h
 try dsimp only
 obtain ⟨t1, ht1, h⟩ := bnd h
 refine wk_math_Float64bits H hS  ht1 ?_; rintro w hS
 refine ⟨_, rfl, ?_⟩
 obtain ⟨o1, h1, c1⟩ := bnd h
 refine cutM_i (fun s w => ∃ (t2 : Int), t2 = o1 ∧ s = (t2, ()) ∧ Ho w0 w L) (fun J1 hJ1 => ?_) ?_
 ·
  have h := h1
  clear h1
  obtain ⟨t3, ht3, h⟩ := bnd h
  obtain rfl := feq_s ht3
  obtain ⟨o2, h2, c2⟩ := bnd h
  refine cutM_i (fun s w => ∃ (t4 : Int), t4 = o2 ∧ s = (t4, ()) ∧ Ho w0 w L) (fun J2 hJ2 => ?_) ?_
  ·
   have h := h2
   clear h2
   refine cond_s h ?_ ?_ <;> intro hc h
   ·
    obtain ⟨o3, h3, c3⟩ := bnd h
    refine cutM_i (fun s w => ∃ (t5 : Int), t5 = o3 ∧ s = (t5, ()) ∧ Ho w0 w L) (fun J3 hJ3 => ?_) ?_
    ·
     have h := h3
     clear h3
     refine cond_s h ?_ ?_ <;> intro hc h
     ·
      obtain rfl := some_inj h
      exact hJ3 _ _ ⟨_, rfl, rfl, hS⟩
     obtain rfl := some_inj h
     exact hJ3 _ _ ⟨_, rfl, rfl, hS⟩
    clear h3 hS
    rintro s w ⟨t5, rfl, rfl, hS⟩
    have h := c3
    clear c3
    try dsimp only
    obtain rfl := some_inj h
    exact hJ2 _ _ ⟨_, rfl, rfl, hS⟩
   obtain ⟨t6, ht6, h⟩ := bnd h
   obtain rfl := fgt_s ht6
   obtain ⟨o4, h4, c4⟩ := bnd h
   refine cutM_i (fun s w => ∃ (t7 : Int), t7 = o4 ∧ s = (t7, ()) ∧ Ho w0 w L) (fun J4 hJ4 => ?_) ?_
   ·
    have h := h4
    clear h4
    refine cond_s h ?_ ?_ <;> intro hc h
    ·
     obtain rfl := some_inj h
     exact hJ4 _ _ ⟨_, rfl, rfl, hS⟩
    obtain rfl := some_inj h
    exact hJ4 _ _ ⟨_, rfl, rfl, hS⟩
   clear h4 hS
   rintro s w ⟨t7, rfl, rfl, hS⟩
   have h := c4
   clear c4
   try dsimp only
   obtain rfl := some_inj h
   exact hJ2 _ _ ⟨_, rfl, rfl, hS⟩
  clear h2 hS
  rintro s w ⟨t4, rfl, rfl, hS⟩
  have h := c2
  clear c2
  try dsimp only
  obtain rfl := some_inj h
  exact hJ1 _ _ ⟨_, rfl, rfl, hS⟩
 clear h1 hS
 rintro s w ⟨t2, rfl, rfl, hS⟩
 have h := c1
 clear c1
 try dsimp only
 obtain ⟨t8, ht8, h⟩ := bnd h
 refine wk_math_Float64frombits H hS  ht8 ?_; rintro z5 w rfl hS
 refine ⟨_, rfl, ?_⟩
 cases some_inj h
 exact hK _ _ rfl hS
theorem wk_round_settle {q0 q1 q2 u0} (hS : Ho w0 w L)  (h : T_round_settle (nf q0) q1 q2 = some u0) (hK : ∀ (z0 : Nat) (w1 : World), nf z0 = u0 → Ho w0 w1 L → K (.float .f64 z0) w1) : CallsX P N.f_round_settle #[.float .f64 q0, .int .i64 q1, .int .i8 q2] w K := by
 refine H.round_settle q0 q1 q2 w _ ?_
 unfold S_round_settle
 unfold T_round_settle at h
 try dsimp only
 obtain ⟨o1, h1, c1⟩ := bnd h
 refine cutM_i (fun s w => ∃ (t1 : Int), t1 = o1 ∧ s = (t1, ()) ∧ Ho w0 w L) (fun J1 hJ1 => ?_) ?_
 ·
  have h := h1
  clear h1
  refine cond_s h ?_ ?_ <;> intro hc h
  ·
   obtain ⟨t2, ht2, h⟩ := bnd h
   refine wk_math_Signbit H hS  ht2 ?_; rintro w hS
   refine ⟨_, rfl, ?_⟩
   obtain ⟨o2, h2, c2⟩ := bnd h
   refine cutM_i (fun s w => ∃ (t3 : Int), t3 = o2 ∧ s = (t3, ()) ∧ Ho w0 w L) (fun J2 hJ2 => ?_) ?_
   ·
    have h := h2
    clear h2
    refine cond_s h ?_ ?_ <;> intro hc h
    ·
     obtain rfl := some_inj h
     exact hJ2 _ _ ⟨_, rfl, rfl, hS⟩
    obtain rfl := some_inj h
    exact hJ2 _ _ ⟨_, rfl, rfl, hS⟩
   clear h2 hS
   rintro s w ⟨t3, rfl, rfl, hS⟩
   have h := c2
   clear c2
   try dsimp only
   obtain rfl := some_inj h
   exact hJ1 _ _ ⟨_, rfl, rfl, hS⟩
  obtain rfl := some_inj h
  exact hJ1 _ _ ⟨_, rfl, rfl, hS⟩
 clear h1 hS
 rintro s w ⟨t1, rfl, rfl, hS⟩
 have h := c1
 clear c1
 try dsimp only
 obtain ⟨t4, ht4, h⟩ := bnd h
 refine wk_math_IsInf H hS  ht4 ?_; rintro w hS
 refine ⟨_, rfl, ?_⟩
 refine cond_s h ?_ ?_ <;> intro hc h
 ·
  obtain ⟨t5, ht5, h⟩ := bnd h
  obtain rfl := fgt_s ht5
  refine cond_s h ?_ ?_ <;> intro hc h
  ·
   refine cond_s h ?_ ?_ <;> intro hc h
   ·
    obtain ⟨t6, ht6, h⟩ := bnd h
    obtain rfl := flt_s ht6
    refine cond_s h ?_ ?_ <;> intro hc h
    ·
     refine cond_s h ?_ ?_ <;> intro hc h
     ·
      obtain ⟨t7, ht7, h⟩ := bnd h
      refine wk_math_Copysign H hS  ht7 ?_; rintro z3 w rfl hS
      refine ⟨_, rfl, ?_⟩
      cases some_inj h
      exact hK _ _ rfl hS
     cases some_inj h
     exact hK _ _ rfl hS
    cases some_inj h
    exact hK _ _ rfl hS
   obtain ⟨t8, ht8, h⟩ := bnd h
   refine wk_math_Copysign H hS  ht8 ?_; rintro z4 w rfl hS
   refine ⟨_, rfl, ?_⟩
   cases some_inj h
   exact hK _ _ rfl hS
  obtain ⟨t9, ht9, h⟩ := bnd h
  obtain rfl := flt_s ht9
  refine cond_s h ?_ ?_ <;> intro hc h
  ·
   refine cond_s h ?_ ?_ <;> intro hc h
   ·
    obtain ⟨t10, ht10, h⟩ := bnd h
    refine wk_math_Copysign H hS  ht10 ?_; rintro z5 w rfl hS
    refine ⟨_, rfl, ?_⟩
    cases some_inj h
    exact hK _ _ rfl hS
   cases some_inj h
   exact hK _ _ rfl hS
  cases some_inj h
  exact hK _ _ rfl hS
 refine cond_s h ?_ ?_ <;> intro hc h
 ·
  refine cond_s h ?_ ?_ <;> intro hc h
  ·
   refine cond_s h ?_ ?_ <;> intro hc h
   ·
    refine cond_s h ?_ ?_ <;> intro hc h
    ·
     obtain ⟨t11, ht11, h⟩ := bnd h
     refine wk_round_step H hS  ht11 ?_; rintro z6 w rfl hS
     refine ⟨_, rfl, ?_⟩
     cases some_inj h
     exact hK _ _ rfl hS
    cases some_inj h
    exact hK _ _ rfl hS
   cases some_inj h
   exact hK _ _ rfl hS
  obtain ⟨t12, ht12, h⟩ := bnd h
  refine wk_round_step H hS  ht12 ?_; rintro z7 w rfl hS
  refine ⟨_, rfl, ?_⟩
  cases some_inj h
  exact hK _ _ rfl hS
 refine cond_s h ?_ ?_ <;> intro hc h
 ·
  refine cond_s h ?_ ?_ <;> intro hc h
  ·
   obtain ⟨t13, ht13, h⟩ := bnd h
   refine wk_round_step H hS  ht13 ?_; rintro z8 w rfl hS
   refine ⟨_, rfl, ?_⟩
   cases some_inj h
   exact hK _ _ rfl hS
  cases some_inj h
  exact hK _ _ rfl hS
 cases some_inj h
 exact hK _ _ rfl hS
theorem wk_round_sign {q0 u0} (hS : Ho w0 w L)  (h : T_round_sign (nf q0) = some u0) (hK : ∀ w1, Ho w0 w1 L → K (.int .i64 u0) w1) : CallsX P N.f_round_sign #[.float .f64 q0] w K := by
 refine H.round_sign q0 w _ ?_
 unfold S_round_sign
 unfold T_round_sign at h
 try dsimp only
 obtain ⟨t1, ht1, h⟩ := bnd h
 obtain rfl := fgt_s ht1
 refine cond_s h ?_ ?_ <;> intro hc h
 ·
  cases some_inj h
  exact hK _ hS
 obtain ⟨t2, ht2, h⟩ := bnd h
 obtain rfl := flt_s ht2
 refine cond_s h ?_ ?_ <;> intro hc h
 ·
  cases some_inj h
  exact hK _ hS
 cases some_inj h
 exact hK _ hS
theorem wk_round_Add {q0 q1 q2 u0} (hS : Ho w0 w L)  (h : T_round_Add (nf q0) (nf q1) q2 = some u0) (hK : ∀ (z0 : Nat) (w1 : World), nf z0 = u0 → Ho w0 w1 L → K (.float .f64 z0) w1) : CallsX P N.f_round_Add #[.float .f64 q0, .float .f64 q1, .int .i8 q2] w K := by
 refine H.round_Add q0 q1 q2 w _ ?_
 unfold S_round_Add
 unfold T_round_Add at h
 try dsimp only
 obtain ⟨t1, ht1, h⟩ := bnd h
 refine wk_round_way H hS  ht1 ?_; rintro w hS
 refine ⟨_, rfl, ?_⟩
 obtain ⟨t2, ht2, h⟩ := bnd h
 refine fadd_s ht2 hS ?_; rintro z1 w rfl hS
 obtain ⟨t3, ht3, h⟩ := bnd h
 obtain rfl : (List.map nf ([q0, q1] : List Nat)) = t3 := some_inj ht3
 refine lit_s (ks := [q0, q1]) (enc := (Value.float .f64)) (m := 2) hS rfl rfl ?_; intro r2 w hS
 obtain ⟨t4, ht4, h⟩ := bnd h
 refine wk_round_finite H hS (Ent.sl mp0) ht4 ?_; rintro w hS
 refine ⟨_, rfl, ?_⟩
 refine cond_s h ?_ ?_ <;> intro hc h
 ·
  cases some_inj h
  exact hK _ _ rfl (hS.pick (A := [_]) [] rfl)
 obtain ⟨o3, h3, c3⟩ := bnd h
 refine cutM_i (fun s w => ∃ (t5 : Bool), t5 = o3 ∧ s = (t5, ()) ∧ Ho w0 w L) (fun J3 hJ3 => ?_) ?_
 ·
  have h := h3
  clear h3
  obtain ⟨t6, ht6, h⟩ := bnd h
  obtain rfl := feq_s ht6
  refine cond_s h ?_ ?_ <;> intro hc h
  ·
   obtain ⟨t7, ht7, h⟩ := bnd h
   obtain rfl := fne_s ht7
   refine cond_s h ?_ ?_ <;> intro hc h
   ·
    obtain ⟨t8, ht8, h⟩ := bnd h
    obtain rfl := feq_s ht8
    refine cond_s h ?_ ?_ <;> intro hc h
    ·
     obtain ⟨t9, ht9, h⟩ := bnd h
     refine wk_math_Signbit H hS  ht9 ?_; rintro w hS
     refine ⟨_, rfl, ?_⟩
     obtain ⟨t10, ht10, h⟩ := bnd h
     refine wk_math_Signbit H hS  ht10 ?_; rintro w hS
     refine ⟨_, rfl, ?_⟩
     obtain rfl := some_inj h
     exact hJ3 _ _ ⟨_, rfl, rfl, (hS.pick (A := [_]) [] rfl)⟩
    obtain rfl := some_inj h
    exact hJ3 _ _ ⟨_, rfl, rfl, (hS.pick (A := [_]) [] rfl)⟩
   obtain rfl := some_inj h
   exact hJ3 _ _ ⟨_, rfl, rfl, (hS.pick (A := [_]) [] rfl)⟩
  obtain ⟨t11, ht11, h⟩ := bnd h
  obtain rfl := feq_s ht11
  refine cond_s h ?_ ?_ <;> intro hc h
  ·
   obtain ⟨t12, ht12, h⟩ := bnd h
   refine wk_math_Signbit H hS  ht12 ?_; rintro w hS
   refine ⟨_, rfl, ?_⟩
   obtain ⟨t13, ht13, h⟩ := bnd h
   refine wk_math_Signbit H hS  ht13 ?_; rintro w hS
   refine ⟨_, rfl, ?_⟩
   obtain rfl := some_inj h
   exact hJ3 _ _ ⟨_, rfl, rfl, (hS.pick (A := [_]) [] rfl)⟩
  obtain rfl := some_inj h
  exact hJ3 _ _ ⟨_, rfl, rfl, (hS.pick (A := [_]) [] rfl)⟩
 clear h3 hS
 rintro s w ⟨t5, rfl, rfl, hS⟩
 have h := c3
 clear c3
 try dsimp only
 refine cond_s h ?_ ?_ <;> intro hc h
 ·
  obtain ⟨t14, ht14, h⟩ := bnd h
  refine wk_round_none H hS  ht14 ?_; rintro z4 w rfl hS
  refine ⟨_, rfl, ?_⟩
  cases some_inj h
  exact hK _ _ rfl hS
 obtain ⟨t15, ht15, h⟩ := bnd h
 obtain rfl := feq_s ht15
 refine cond_s h ?_ ?_ <;> intro hc h
 ·
  cases some_inj h
  exact hK _ _ rfl hS
 obtain ⟨t16, ht16, h⟩ := bnd h
 refine wk_math_IsInf H hS  ht16 ?_; rintro w hS
 refine ⟨_, rfl, ?_⟩
 refine cond_s h ?_ ?_ <;> intro hc h
 ·
  obtain ⟨t17, ht17, h⟩ := bnd h
  refine wk_round_settle H hS  ht17 ?_; rintro z5 w rfl hS
  refine ⟨_, rfl, ?_⟩
  cases some_inj h
  exact hK _ _ rfl hS
 obtain ⟨t18, ht18, h⟩ := bnd h
 refine wk_math_Abs H hS  ht18 ?_; rintro z6 w rfl hS
 refine ⟨_, rfl, ?_⟩
 obtain ⟨t19, ht19, h⟩ := bnd h
 refine wk_math_Abs H hS  ht19 ?_; rintro z7 w rfl hS
 refine ⟨_, rfl, ?_⟩
 obtain ⟨t20, ht20, h⟩ := bnd h
 obtain rfl := flt_s ht20
 obtain ⟨o10, h10, c10⟩ := bnd h
 refine cutM_i (fun s w => ∃ (z8 : Nat) (z9 : Nat), ((nf z8), (nf z9)) = o10 ∧ s = (z8, z9, ()) ∧ Ho w0 w L) (fun J10 hJ10 => ?_) ?_
 ·
  have h := h10
  clear h10
  refine cond_s h ?_ ?_ <;> intro hc h
  ·
   obtain rfl := some_inj h
   exact hJ10 _ _ ⟨_, _, rfl, rfl, hS⟩
  obtain rfl := some_inj h
  exact hJ10 _ _ ⟨_, _, rfl, rfl, hS⟩
 clear h10 hS
 rintro s w ⟨z8, z9, rfl, rfl, hS⟩
 have h := c10
 clear c10
 try dsimp only
 obtain ⟨t23, ht23, h⟩ := bnd h
 refine fsub_s ht23 hS ?_; rintro z11 w rfl hS
 obtain ⟨t24, ht24, h⟩ := bnd h
 refine fsub_s ht24 hS ?_; rintro z12 w rfl hS
 obtain ⟨t25, ht25, h⟩ := bnd h
 refine wk_round_sign H hS  ht25 ?_; rintro w hS
 refine ⟨_, rfl, ?_⟩
 obtain ⟨t26, ht26, h⟩ := bnd h
 refine wk_round_settle H hS  ht26 ?_; rintro z13 w rfl hS
 refine ⟨_, rfl, ?_⟩
 cases some_inj h
 exact hK _ _ rfl hS
theorem wk_vector_Norm {q0 q0l q0c ws0 u0} (hS : Ho w0 w L) (hq0 : EF L ws0 q0 q0l q0c) (h : T_vector_Norm (List.map nf ws0) = some u0) (hK : ∀ (z0 : Nat) (w1 : World), nf z0 = u0 → Ho w0 w1 L → K (.float .f64 z0) w1) : CallsX P N.f_vector_Norm #[.slice q0 q0l q0c] w K := by
 refine H.vector_Norm q0 q0l q0c w _ ?_
 unfold S_vector_Norm
 unfold T_vector_Norm at h
 try dsimp only
 obtain ⟨t1, ht1, h⟩ := bnd h
 obtain rfl := lenF ht1 (hq0.now (fun _ h => h) hS)
 obtain ⟨o2, h2, c2⟩ := bnd h
 refine cutM_i (fun s w => ∃ (z1 : Nat), (nf z1) = o2 ∧ s = (z1, ()) ∧ Ho w0 w L) (fun J2 hJ2 => ?_) ?_
 ·
  have h := h2
  clear h2
  refine iter_sim (fun s w t => ∃ (z3 : Nat) (t4 : Int), ((nf z3), t4) = t ∧ s = (z3, t4, ()) ∧ Ho w0 w L) ?_ h ⟨_, _, rfl, rfl, hS⟩
  clear h hS
  rintro s w t X q ⟨z3, t4, rfl, rfl, hS⟩ h hX hO
  unfold T_vector_Norm_b2 at h
  try dsimp only
  refine cond_s h ?_ ?_ <;> intro hc h
  ·
   obtain ⟨t5, ht5, h⟩ := bnd h
   obtain ⟨z4, rfl, q5x, q5l, q5r⟩ := atF ht5
   refine idx_s (hq0.now (fun _ h => h) hS) q5x q5l q5r ?_; intro b6 hb6
   refine ⟨_, rd_get (hq0.now (fun _ h => h) hS) hb6 q5x, ?_⟩
   obtain ⟨t6, ht6, h⟩ := bnd h
   refine wk_math_Abs H hS  ht6 ?_; rintro z7 w rfl hS
   refine ⟨_, rfl, ?_⟩
   obtain ⟨t7, ht7, h⟩ := bnd h
   refine wk_round_Add H hS  ht7 ?_; rintro z8 w rfl hS
   refine ⟨_, rfl, ?_⟩
   obtain rfl := some_inj h
   exact hX _ rfl _ _ ⟨_, _, rfl, rfl, hS⟩
  obtain rfl := some_inj h
  have h := congrArg some (hO _ rfl)
  obtain rfl := some_inj h
  exact hJ2 _ _ ⟨_, rfl, rfl, hS⟩
 clear h2 hS
 rintro s w ⟨z1, rfl, rfl, hS⟩
 have h := c2
 clear c2
 try dsimp only
 cases some_inj h
 exact hK _ _ rfl hS
theorem wk_vector_Same {q0 q0l q0c ws0 q1 q1l q1c ws1 u0} (hS : Ho w0 w L) (hq0 : EF L ws0 q0 q0l q0c) (hq1 : EF L ws1 q1 q1l q1c) (hx : T_vector_Same (List.map nf ws0) (List.map nf ws1) = some u0) (hK : ∀ w1, Ho w0 w1 L → K (.bool u0) w1) : CallsX P N.f_vector_Same #[.slice q0 q0l q0c, .slice q1 q1l q1c] w K := by
 unfold T_vector_Same at hx
 have hd : (List.map nf ws0).length ≤ 4294967296 := by
  rcases Nat.lt_or_ge 4294967296 (List.map nf ws0).length with h | h
  ·
   rw [decide_eq_false (by omega)] at hx; cases hx
  exact h
 rw [decide_eq_true hd] at hx
 have hx := some_inj hx
 subst hx
 have r0 := (hq0.now (fun _ h => h) hS).reals
 refine (vsame_c H r0 (hq1.now (fun _ h => h) hS).reals (by have := r0.len; simp at hd; omega)).mono ?_
 rintro _ w1 ⟨rfl, h1⟩
 exact hK _ (hS.next h1)
theorem wk_w09_awake  {u0} (hS : Ho w0 w L)  (h : T_w09_awake  = some u0) (hK : ∀ w1, Ho w0 w1 L → K (.bool u0) w1) : CallsX P N.f_w09_awake #[] w K := by
 refine H.w09_awake  w _ ?_
 unfold S_w09_awake
 unfold T_w09_awake at h
 try dsimp only
 obtain ⟨t1, ht1, h⟩ := bnd h
 obtain rfl : (List.map nf ([4607182418800017408, 4611686018427387904] : List Nat)) = t1 := some_inj ht1
 refine lit_s (ks := [4607182418800017408, 4611686018427387904]) (enc := (Value.float .f64)) (m := 2) hS rfl rfl ?_; intro r1 w hS
 obtain ⟨t2, ht2, h⟩ := bnd h
 obtain rfl : (List.map nf ([4613937818241073152, 4616189618054758400] : List Nat)) = t2 := some_inj ht2
 refine lit_s (ks := [4613937818241073152, 4616189618054758400]) (enc := (Value.float .f64)) (m := 2) hS rfl rfl ?_; intro r2 w hS
 obtain ⟨⟨t3, t4⟩, ho3, h⟩ := bnd h
 refine wk_vector_Axpy H hS (Ent.sl mp1) (Ent.sl mp0) ho3 ?_; clear hS ho3; rintro a3 m3 c3 ws3 w rfl hS
 refine ⟨_, _, _, _, rfl, ?_⟩
 obtain ⟨⟨t5, t6⟩, ho5, h⟩ := bnd h
 refine wk_vector_Dot H hS (Ent.sl mp2) (Ent.sl mp1) ho5 ?_; clear hS ho5; rintro z4 w rfl hS
 refine ⟨_, _, rfl, ?_⟩
 obtain ⟨t7, ht7, h⟩ := bnd h
 obtain rfl : (List.map nf ([4613937818241073152, 13839561654909534208, 4616189618054758400] : List Nat)) = t7 := some_inj ht7
 refine lit_s (ks := [4613937818241073152, 13839561654909534208, 4616189618054758400]) (enc := (Value.float .f64)) (m := 3) hS rfl rfl ?_; intro r5 w hS
 obtain ⟨⟨t8, t9⟩, ho8, h⟩ := bnd h
 refine wk_vector_Most H hS (Ent.sl mp0) ho8 ?_; clear hS ho8; rintro z6 w rfl hS
 refine ⟨_, _, rfl, ?_⟩
 refine cond_s h ?_ ?_ <;> intro hc h
 ·
  refine cond_s h ?_ ?_ <;> intro hc h
  ·
   obtain ⟨t10, ht10, h⟩ := bnd h
   obtain rfl : (List.map nf ([4617315517961601024, 4620693217682128896] : List Nat)) = t10 := some_inj ht10
   refine lit_s (ks := [4617315517961601024, 4620693217682128896]) (enc := (Value.float .f64)) (m := 2) hS rfl rfl ?_; intro r7 w hS
   obtain ⟨t11, ht11, h⟩ := bnd h
   refine wk_k_SameReals H hS (Ent.sl mp2) (Ent.sl mp0) ht11 ?_; rintro w hS
   refine ⟨_, rfl, ?_⟩
   refine cond_s h ?_ ?_ <;> intro hc h
   ·
    obtain ⟨t12, ht12, h⟩ := bnd h
    obtain rfl := feq_s ht12
    refine cond_s h ?_ ?_ <;> intro hc h
    ·
     refine cond_s h ?_ ?_ <;> intro hc h
     ·
      obtain ⟨t13, ht13, h⟩ := bnd h
      obtain rfl := feq_s ht13
      refine cond_s h ?_ ?_ <;> intro hc h
      ·
       obtain ⟨t14, ht14, h⟩ := bnd h
       obtain rfl : (List.map nf ([4613937818241073152, 13839561654909534208] : List Nat)) = t14 := some_inj ht14
       refine lit_s (ks := [4613937818241073152, 13839561654909534208]) (enc := (Value.float .f64)) (m := 2) hS rfl rfl ?_; intro r8 w hS
       obtain ⟨t15, ht15, h⟩ := bnd h
       refine wk_vector_Norm H hS (Ent.sl mp0) ht15 ?_; rintro z9 w rfl hS
       refine ⟨_, rfl, ?_⟩
       obtain ⟨t16, ht16, h⟩ := bnd h
       obtain rfl := feq_s ht16
       refine cond_s h ?_ ?_ <;> intro hc h
       ·
        obtain ⟨t17, ht17, h⟩ := bnd h
        obtain rfl : (List.map nf ([0] : List Nat)) = t17 := some_inj ht17
        refine lit_s (ks := [0]) (enc := (Value.float .f64)) (m := 1) hS rfl rfl ?_; intro r10 w hS
        obtain ⟨t18, ht18, h⟩ := bnd h
        refine wk_math_Copysign H hS  ht18 ?_; rintro z11 w rfl hS
        refine ⟨_, rfl, ?_⟩
        obtain ⟨t19, ht19, h⟩ := bnd h
        obtain rfl : (List.map nf ([z11] : List Nat)) = t19 := some_inj ht19
        refine lit_s (ks := [z11]) (enc := (Value.float .f64)) (m := 1) hS rfl rfl ?_; intro r12 w hS
        obtain ⟨t20, ht20, h⟩ := bnd h
        refine wk_vector_Same H hS (Ent.sl mp1) (Ent.sl mp0) ht20 ?_; rintro w hS
        refine ⟨_, rfl, ?_⟩
        cases some_inj h
        exact hK _ (hS.pick (A := [_, _, _, _, _, _, _, _]) [] rfl)
       cases some_inj h
       exact hK _ (hS.pick (A := [_, _, _, _, _, _]) [] rfl)
      cases some_inj h
      exact hK _ (hS.pick (A := [_, _, _, _, _]) [] rfl)
     cases some_inj h
     exact hK _ (hS.pick (A := [_, _, _, _, _]) [] rfl)
    cases some_inj h
    exact hK _ (hS.pick (A := [_, _, _, _, _]) [] rfl)
   cases some_inj h
   exact hK _ (hS.pick (A := [_, _, _, _, _]) [] rfl)
  cases some_inj h
  exact hK _ (hS.pick (A := [_, _, _, _]) [] rfl)
 cases some_inj h
 exact hK _ (hS.pick (A := [_, _, _, _]) [] rfl)
theorem wk_bn_NewInt {q0 u0} (hS : Ho w0 w L)  (h : T_bn_NewInt q0 = some u0) (hK : ∀ (r0 : Nat) (a0 : Option Addr) (n0 c0 : Nat) (w1 : World), Ho w0 w1 ((bg N.t_bn_Int N.t_uint32 r0 a0 n0 c0 u0) :: L) → K (.pointer (some ⟨r0, 0, none⟩)) w1) : CallsX P N.f_bn_NewInt #[.int .i64 q0] w K := by
 refine H.bn_NewInt q0 w _ ?_
 unfold S_bn_NewInt
 unfold T_bn_NewInt at h
 try dsimp only
 refine newM_s hS ?_; intro r1 w hS; replace hS := Ho.bgNew (E := N.t_uint32) hS
 obtain ⟨t1, ht1, h⟩ := bnd h
 refine big_SetInt64_z H hS  ht1 ?_; intro a2 m2 c2 w hS
 refine ⟨_, rfl, ?_⟩
 cases some_inj h
 exact hK _ _ _ _ _ hS
theorem wk_dyad_limbs {q0 q0a q0l q0c y0 u0} (hS : Ho w0 w L) (hq0 : Ent L (bgR N.t_bn_Int q0 q0a q0l q0c y0)) (h : T_dyad_limbs y0 = some u0) (hK : ∀ (a0 : Option Addr) (n0 c0 : Nat) (w1 : World), Ho w0 w1 ((sl a0 n0 c0 (List.map (Value.int .u64) u0) N.t_uint64) :: L) → K (.slice a0 n0 c0) w1) : CallsX P N.f_dyad_limbs #[.pointer (some ⟨q0, 0, none⟩)] w K := by
 refine H.dyad_limbs (some ⟨q0, 0, none⟩) w _ ?_
 unfold S_dyad_limbs
 unfold T_dyad_limbs at h
 try dsimp only
 refine newM_s hS ?_; intro r1 w hS; replace hS := Ho.bgNew (E := N.t_uint32) hS
 obtain ⟨t1, ht1, h⟩ := bnd h
 refine big_Abs_zx H hS hq0 ht1 ?_; intro a2 m2 c2 w hS
 refine ⟨_, rfl, ?_⟩
 refine newM_s hS ?_; intro r3 w hS; replace hS := Ho.bgNew (E := N.t_uint32) hS
 refine newM_s hS ?_; intro r4 w hS; replace hS := Ho.bgNew (E := N.t_uint32) hS
 obtain ⟨t2, ht2, h⟩ := bnd h
 refine big_SetUint64_z H hS  ht2 ?_; intro a5 m5 c5 w hS
 refine ⟨_, rfl, ?_⟩
 obtain ⟨o9, h9, c9⟩ := bnd h
 refine cutM_i (fun s w => ∃ (a6 : Option Addr) (m7 : Nat) (c8 : Nat) (t3 : List Int), t3 = o9 ∧ s = ((a6, m7, c8), ()) ∧ Ho w0 w ((sl a6 m7 c8 (List.map (Value.int .u64) t3) N.t_uint64) :: L)) (fun J9 hJ9 => ?_) ?_
 ·
  have h := h9
  clear h9
  replace hS := hS.none (α := Int) (enc := (Value.int .u64)) (t := N.t_uint64)
  refine iter_sim (fun s w t => ∃ (a10 : Option Addr) (m11 : Nat) (c12 : Nat) (t4 : Int) (a13 : Option Addr) (m14 : Nat) (c15 : Nat) (t5 : Int) (a16 : Option Addr) (m17 : Nat) (c18 : Nat) (t6 : List Int), (t4, t5, t6) = t ∧ s = ((a16, m17, c18), ()) ∧ Ho w0 w ((bg N.t_bn_Int N.t_uint32 r4 a5 m5 c5 t2) :: (bg N.t_bn_Int N.t_uint32 r3 a10 m11 c12 t4) :: (bg N.t_bn_Int N.t_uint32 r1 a13 m14 c15 t5) :: (sl a16 m17 c18 (List.map (Value.int .u64) t6) N.t_uint64) :: L)) ?_ h ⟨_, _, _, _, _, _, _, _, _, _, _, _, rfl, rfl, (hS.pick (A := [_, _, _, _]) [1, 1, 1, 0] rfl)⟩
  clear h hS
  rintro s w t X q ⟨a10, m11, c12, t4, a13, m14, c15, t5, a16, m17, c18, t6, rfl, rfl, hS⟩ h hX hO
  unfold T_dyad_limbs_b2 at h
  try dsimp only
  obtain ⟨t7, ht7, h⟩ := bnd h
  refine big_Sign_x H hS (Ent.bg mp2) ht7 ?_; intro w hS
  refine ⟨_, rfl, ?_⟩
  refine cond_s h ?_ ?_ <;> intro hc h
  ·
   obtain ⟨t8, ht8, h⟩ := bnd h
   replace hS := ro1 hS
   refine big_And_zxy H hS (Ent.bg mp1) (Ent.bg mp0) ht8 ?_; intro a19 m19 c19 w hS
   refine ⟨_, rfl, ?_⟩
   obtain ⟨t9, ht9, h⟩ := bnd h
   refine big_Uint64_x H hS (Ent.bg mp0) ht9 ?_; intro w hS
   refine ⟨_, rfl, ?_⟩
   obtain ⟨t10, ht10, h⟩ := bnd h
   obtain rfl : ([t9] : List Int) = t10 := some_inj ht10
   refine lit_s (ks := [t9]) (enc := (Value.int .u64)) (m := 1) hS rfl rfl ?_; intro r20 w hS
   obtain ⟨t11, ht11, h⟩ := bnd h
   obtain ⟨rfl, kt11⟩ := appE ht11
   replace hS := ro4 hS
   refine app_s hS kt11 ((Ent.sl mp1).now (fun _ h => h) hS) (fun _ => rfl) rfl ?_; clear hS kt11; intro a21 c21 w hS
   obtain ⟨t12, ht12, h⟩ := bnd h
   replace hS := ro4 hS
   refine big_Rsh_zz H hS  ht12 ?_; intro a22 m22 c22 w hS
   refine ⟨_, rfl, ?_⟩
   obtain rfl := some_inj h
   exact hX _ rfl _ _ ⟨_, _, _, _, _, _, _, _, _, _, _, _, rfl, rfl, (hS.pick (A := [_, _, _, _, _]) [4, 3, 0, 0] rfl)⟩
  obtain rfl := some_inj h
  have h := congrArg some (hO _ rfl)
  obtain rfl := some_inj h
  exact hJ9 _ _ ⟨_, _, _, _, rfl, rfl, (hS.pick (A := [_, _, _, _]) [3] rfl)⟩
 clear h9 hS
 rintro s w ⟨a6, m7, c8, t3, rfl, rfl, hS⟩
 have h := c9
 clear c9
 try dsimp only
 cases some_inj h
 exact hK _ _ _ _ hS
theorem wk_dyad_made {q0 q0a q0l q0c y0 q1 u0 u1 u2 u3} (hS : Ho w0 w L) (hq0 : Ent L (bgR N.t_bn_Int q0 q0a q0l q0c y0)) (h : T_dyad_made y0 q1 = some (u0, u1, u2, u3)) (hK : ∀ (a1 : Option Addr) (n1 c1 : Nat) (w1 : World), Ho w0 w1 ((sl a1 n1 c1 (List.map (Value.int .u64) u1) N.t_uint64) :: L) → K (.tuple #[.agg #[.bool u0, .slice a1 n1 c1, .int .i64 u2], .int .i64 u3]) w1) : CallsX P N.f_dyad_made #[.pointer (some ⟨q0, 0, none⟩), .int .i64 q1] w K := by
 refine H.dyad_made (some ⟨q0, 0, none⟩) q1 w _ ?_
 unfold S_dyad_made
 unfold T_dyad_made at h
 try dsimp only
 refine newM_s hS ?_; intro r1 w hS
 obtain ⟨t1, ht1, h⟩ := bnd h
 refine big_Sign_x H hS (hq0.mono tl1) ht1 ?_; intro w hS
 refine ⟨_, rfl, ?_⟩
 refine cond_s h ?_ ?_ <;> intro hc h
 ·
  refine stc_s hS rfl rfl ?_; intro w hS
  refine stc_s hS rfl rfl ?_; intro w hS
  refine stc_s hS rfl rfl ?_; intro w hS
  refine ⟨_, (hS.cel mp0 rfl), ?_⟩
  refine ⟨_, _, _, (hS.cel mp0 rfl), ?_⟩
  refine ⟨_, (hS.cel mp0 rfl), ?_⟩
  replace hS := hS.none (α := Int) (enc := (Value.int .u64)) (t := N.t_uint64)
  cases some_inj h
  exact hK _ _ _ _ (hS.pick (A := [_, _]) [0] rfl)
 obtain ⟨t2, ht2, h⟩ := bnd h
 refine big_TrailingZeroBits_x H hS (hq0.mono tl1) ht2 ?_; intro w hS
 refine ⟨_, rfl, ?_⟩
 refine cond_s h ?_ ?_ <;> intro hc h
 ·
  refine stc_s hS rfl rfl ?_; intro w hS
  refine stc_s hS rfl rfl ?_; intro w hS
  refine stc_s hS rfl rfl ?_; intro w hS
  refine ⟨_, (hS.cel mp0 rfl), ?_⟩
  refine ⟨_, _, _, (hS.cel mp0 rfl), ?_⟩
  refine ⟨_, (hS.cel mp0 rfl), ?_⟩
  replace hS := hS.none (α := Int) (enc := (Value.int .u64)) (t := N.t_uint64)
  cases some_inj h
  exact hK _ _ _ _ (hS.pick (A := [_, _]) [0] rfl)
 refine cond_s h ?_ ?_ <;> intro hc h
 ·
  refine stc_s hS rfl rfl ?_; intro w hS
  refine stc_s hS rfl rfl ?_; intro w hS
  refine stc_s hS rfl rfl ?_; intro w hS
  refine ⟨_, (hS.cel mp0 rfl), ?_⟩
  refine ⟨_, _, _, (hS.cel mp0 rfl), ?_⟩
  refine ⟨_, (hS.cel mp0 rfl), ?_⟩
  replace hS := hS.none (α := Int) (enc := (Value.int .u64)) (t := N.t_uint64)
  cases some_inj h
  exact hK _ _ _ _ (hS.pick (A := [_, _]) [0] rfl)
 refine cond_s h ?_ ?_ <;> intro hc h
 ·
  refine stc_s hS rfl rfl ?_; intro w hS
  refine stc_s hS rfl rfl ?_; intro w hS
  refine stc_s hS rfl rfl ?_; intro w hS
  refine ⟨_, (hS.cel mp0 rfl), ?_⟩
  refine ⟨_, _, _, (hS.cel mp0 rfl), ?_⟩
  refine ⟨_, (hS.cel mp0 rfl), ?_⟩
  replace hS := hS.none (α := Int) (enc := (Value.int .u64)) (t := N.t_uint64)
  cases some_inj h
  exact hK _ _ _ _ (hS.pick (A := [_, _]) [0] rfl)
 obtain ⟨t3, ht3, h⟩ := bnd h
 refine big_BitLen_x H hS (hq0.mono tl1) ht3 ?_; intro w hS
 refine ⟨_, rfl, ?_⟩
 refine cond_s h ?_ ?_ <;> intro hc h
 ·
  refine stc_s hS rfl rfl ?_; intro w hS
  refine stc_s hS rfl rfl ?_; intro w hS
  refine stc_s hS rfl rfl ?_; intro w hS
  refine ⟨_, (hS.cel mp0 rfl), ?_⟩
  refine ⟨_, _, _, (hS.cel mp0 rfl), ?_⟩
  refine ⟨_, (hS.cel mp0 rfl), ?_⟩
  replace hS := hS.none (α := Int) (enc := (Value.int .u64)) (t := N.t_uint64)
  cases some_inj h
  exact hK _ _ _ _ (hS.pick (A := [_, _]) [0] rfl)
 obtain ⟨t4, ht4, h⟩ := bnd h
 refine big_Sign_x H hS (hq0.mono tl1) ht4 ?_; intro w hS
 refine ⟨_, rfl, ?_⟩
 refine newM_s hS ?_; intro r2 w hS; replace hS := Ho.bgNew (E := N.t_uint32) hS
 refine newM_s hS ?_; intro r3 w hS; replace hS := Ho.bgNew (E := N.t_uint32) hS
 obtain ⟨t5, ht5, h⟩ := bnd h
 refine big_Abs_zx H hS (hq0.mono tl2) ht5 ?_; intro a4 m4 c4 w hS
 refine ⟨_, rfl, ?_⟩
 obtain ⟨t6, ht6, h⟩ := bnd h
 replace hS := ro1 hS
 refine big_Rsh_zx H hS (Ent.bg mp0) ht6 ?_; intro a5 m5 c5 w hS
 refine ⟨_, rfl, ?_⟩
 obtain ⟨t7, ht7, h⟩ := bnd h
 refine wk_dyad_limbs H hS (Ent.bg mp0) ht7 ?_; rintro a6 m6 c6 w hS
 refine ⟨_, _, _, rfl, ?_⟩
 replace hS := ro3 hS
 refine stc_s hS rfl rfl ?_; intro w hS
 refine stc_s hS rfl rfl ?_; intro w hS
 refine stc_s hS rfl rfl ?_; intro w hS
 refine ⟨_, (hS.cel mp0 rfl), ?_⟩
 refine ⟨_, _, _, (hS.cel mp0 rfl), ?_⟩
 refine ⟨_, (hS.cel mp0 rfl), ?_⟩
 cases some_inj h
 exact hK _ _ _ _ (hS.pick (A := [_, _, _, _]) [1] rfl)
theorem wk_dyad_Int {q0 u0 u1 u2} (hS : Ho w0 w L)  (h : T_dyad_Int q0 = some (u0, u1, u2)) (hK : ∀ (a1 : Option Addr) (n1 c1 : Nat) (w1 : World), Ho w0 w1 ((sl a1 n1 c1 (List.map (Value.int .u64) u1) N.t_uint64) :: L) → K (.agg #[.bool u0, .slice a1 n1 c1, .int .i64 u2]) w1) : CallsX P N.f_dyad_Int #[.int .i64 q0] w K := by
 refine H.dyad_Int q0 w _ ?_
 unfold S_dyad_Int
 unfold T_dyad_Int at h
 try dsimp only
 refine newM_s hS ?_; intro r1 w hS
 obtain ⟨t1, ht1, h⟩ := bnd h
 refine wk_bn_NewInt H hS  ht1 ?_; rintro r2 a2 m2 c2 w hS
 refine ⟨_, rfl, ?_⟩
 obtain ⟨⟨t2, t3, t4, t5⟩, ho2, h⟩ := bnd h
 refine wk_dyad_made H hS (Ent.bg mp0) ho2 ?_; clear hS ho2; rintro a3 m3 c3 w hS
 refine ⟨_, _, _, _, _, _, rfl, ?_⟩
 refine newM_s hS ?_; intro r4 w hS
 refine stc_s hS rfl rfl ?_; intro w hS
 refine stc_s hS rfl rfl ?_; intro w hS
 refine stc_s hS rfl rfl ?_; intro w hS
 refine ⟨_, (hS.cel mp0 rfl), ?_⟩
 refine ⟨_, _, _, (hS.cel mp0 rfl), ?_⟩
 refine ⟨_, (hS.cel mp0 rfl), ?_⟩
 replace hS := ro3 hS
 refine stc_s hS rfl rfl ?_; intro w hS
 refine stc_s hS rfl rfl ?_; intro w hS
 refine stc_s hS rfl rfl ?_; intro w hS
 refine ⟨_, (hS.cel mp0 rfl), ?_⟩
 refine ⟨_, _, _, (hS.cel mp0 rfl), ?_⟩
 refine ⟨_, (hS.cel mp0 rfl), ?_⟩
 cases some_inj h
 exact hK _ _ _ _ (hS.pick (A := [_, _, _, _]) [2] rfl)
theorem wk_k_Finite {q0 u0} (hS : Ho w0 w L)  (h : T_k_Finite (nf q0) = some u0) (hK : ∀ w1, Ho w0 w1 L → K (.bool u0) w1) : CallsX P N.f_k_Finite #[.float .f64 q0] w K := by
 refine H.k_Finite q0 w _ ?_
 unfold S_k_Finite
 unfold T_k_Finite at h
 try dsimp only
 obtain ⟨t1, ht1, h⟩ := bnd h
 refine fsub_s ht1 hS ?_; rintro z1 w rfl hS
 obtain ⟨t2, ht2, h⟩ := bnd h
 obtain rfl := feq_s ht2
 cases some_inj h
 exact hK _ hS
theorem wk_bits_Kind {q0 u0} (hS : Ho w0 w L)  (h : T_bits_Kind (nf q0) = some u0) (hK : ∀ w1, Ho w0 w1 L → K (.int .i64 u0) w1) : CallsX P N.f_bits_Kind #[.float .f64 q0] w K := by
 refine H.bits_Kind q0 w _ ?_
 unfold S_bits_Kind
 unfold T_bits_Kind at h
 try dsimp only
 obtain ⟨t1, ht1, h⟩ := bnd h
 refine wk_math_Abs H hS  ht1 ?_; rintro z1 w rfl hS
 refine ⟨_, rfl, ?_⟩
 obtain ⟨t2, ht2, h⟩ := bnd h
 obtain rfl := fne_s ht2
 refine cond_s h ?_ ?_ <;> intro hc h
 ·
  cases some_inj h
  exact hK _ hS
 obtain ⟨t3, ht3, h⟩ := bnd h
 refine wk_math_IsInf H hS  ht3 ?_; rintro w hS
 refine ⟨_, rfl, ?_⟩
 refine cond_s h ?_ ?_ <;> intro hc h
 ·
  cases some_inj h
  exact hK _ hS
 obtain ⟨t4, ht4, h⟩ := bnd h
 obtain rfl := fge_s ht4
 refine cond_s h ?_ ?_ <;> intro hc h
 ·
  cases some_inj h
  exact hK _ hS
 obtain ⟨t5, ht5, h⟩ := bnd h
 obtain rfl := fgt_s ht5
 refine cond_s h ?_ ?_ <;> intro hc h
 ·
  cases some_inj h
  exact hK _ hS
 cases some_inj h
 exact hK _ hS
theorem wk_math_normalize {q0 u0 u1} (hS : Ho w0 w L)  (h : T_math_normalize (nf q0) = some (u0, u1)) (hK : ∀ (z0 : Nat) (w1 : World), nf z0 = u0 → Ho w0 w1 L → K (.tuple #[.float .f64 z0, .int .i64 u1]) w1) : CallsX P N.f_math_normalize #[.float .f64 q0] w K := by
 refine H.math_normalize q0 w _ ?_
 unfold S_math_normalize
 unfold T_math_normalize at h
 try dsimp only
 obtain ⟨t1, ht1, h⟩ := bnd h
 refine wk_math_Abs H hS  ht1 ?_; rintro z1 w rfl hS
 refine ⟨_, rfl, ?_⟩
 obtain ⟨t2, ht2, h⟩ := bnd h
 obtain rfl := flt_s ht2
 refine cond_s h ?_ ?_ <;> intro hc h
 ·
  obtain ⟨t3, ht3, h⟩ := bnd h
  refine fmul_s ht3 hS ?_; rintro z2 w rfl hS
  cases some_inj h
  exact hK _ _ rfl hS
 cases some_inj h
 exact hK _ _ rfl hS
theorem wk_math_frexp {q0 u0 u1} (hS : Ho w0 w L)  (h : T_math_frexp (nf q0) = some (u0, u1)) (hK : ∀ (z0 : Nat) (w1 : World), nf z0 = u0 → Ho w0 w1 L → K (.tuple #[.float .f64 z0, .int .i64 u1]) w1) : CallsX P N.f_math_frexp #[.float .f64 q0] w K := by
 refine H.math_frexp q0 w _ ?_
 unfold S_math_frexp
 unfold T_math_frexp at h
 try dsimp only
 obtain ⟨t1, ht1, h⟩ := bnd h
 obtain rfl := feq_s ht1
 refine cond_s h ?_ ?_ <;> intro hc h
 ·
  cases some_inj h
  exact hK _ _ rfl hS
 obtain ⟨t2, ht2, h⟩ := bnd h
 refine wk_math_IsInf H hS  ht2 ?_; rintro w hS
 refine ⟨_, rfl, ?_⟩
 refine cond_s h ?_ ?_ <;> intro hc h
 ·
  obtain ⟨t3, ht3, h⟩ := bnd h
  refine wk_math_IsNaN H hS  ht3 ?_; rintro w hS
  refine ⟨_, rfl, ?_⟩
  refine cond_s h ?_ ?_ <;> intro hc h
  ·
   cases some_inj h
   exact hK _ _ rfl hS
  obtain ⟨⟨t4, t5⟩, ho4, h⟩ := bnd h
  refine wk_math_normalize H hS  ho4 ?_; clear hS ho4; rintro z1 w rfl hS
  refine ⟨_, _, rfl, ?_⟩
  obtain ⟨t6, ht6, h⟩ := bnd h
  refine wk_math_Float64bits H hS  ht6 ?_; rintro w hS
  refine ⟨_, rfl, ?_⟩
  refine ⟨by decide, ?_⟩
  obtain ⟨t7, ht7, h⟩ := bnd h
  refine wk_math_Float64frombits H hS  ht7 ?_; rintro z2 w rfl hS
  refine ⟨_, rfl, ?_⟩
  cases some_inj h
  exact hK _ _ rfl hS
 cases some_inj h
 exact hK _ _ rfl hS
theorem wk_math_Frexp {q0 u0 u1} (hS : Ho w0 w L)  (h : T_math_Frexp (nf q0) = some (u0, u1)) (hK : ∀ (z0 : Nat) (w1 : World), nf z0 = u0 → Ho w0 w1 L → K (.tuple #[.float .f64 z0, .int .i64 u1]) w1) : CallsX P N.f_math_Frexp #[.float .f64 q0] w K := by
 refine H.math_Frexp q0 w _ ?_
 unfold S_math_Frexp
 unfold T_math_Frexp at h
 try dsimp only
 obtain ⟨⟨t1, t2⟩, ho1, h⟩ := bnd h
 refine wk_math_frexp H hS  ho1 ?_; clear hS ho1; rintro z1 w rfl hS
 refine ⟨_, _, rfl, ?_⟩
 cases some_inj h
 exact hK _ _ rfl hS
theorem wk_math_Inf {q0 u0} (hS : Ho w0 w L)  (h : T_math_Inf q0 = some u0) (hK : ∀ (z0 : Nat) (w1 : World), nf z0 = u0 → Ho w0 w1 L → K (.float .f64 z0) w1) : CallsX P N.f_math_Inf #[.int .i64 q0] w K := by
 refine H.math_Inf q0 w _ ?_
 unfold S_math_Inf
 unfold T_math_Inf at h
 try dsimp only
 obtain ⟨o1, h1, c1⟩ := bnd h
 refine cutM_i (fun s w => ∃ (t1 : Int), t1 = o1 ∧ s = (t1, ()) ∧ Ho w0 w L) (fun J1 hJ1 => ?_) ?_
 ·
  have h := h1
  clear h1
  refine cond_s h ?_ ?_ <;> intro hc h
  ·
   obtain rfl := some_inj h
   exact hJ1 _ _ ⟨_, rfl, rfl, hS⟩
  obtain rfl := some_inj h
  exact hJ1 _ _ ⟨_, rfl, rfl, hS⟩
 clear h1 hS
 rintro s w ⟨t1, rfl, rfl, hS⟩
 have h := c1
 clear c1
 try dsimp only
 obtain ⟨t2, ht2, h⟩ := bnd h
 refine wk_math_Float64frombits H hS  ht2 ?_; rintro z2 w rfl hS
 refine ⟨_, rfl, ?_⟩
 cases some_inj h
 exact hK _ _ rfl hS
theorem wk_math_ldexp {q0 q1 u0} (hS : Ho w0 w L)  (h : T_math_ldexp (nf q0) q1 = some u0) (hK : ∀ (z0 : Nat) (w1 : World), nf z0 = u0 → Ho w0 w1 L → K (.float .f64 z0) w1) : CallsX P N.f_math_ldexp #[.float .f64 q0, .int .i64 q1] w K := by
 refine H.math_ldexp q0 q1 w _ ?_
 unfold S_math_ldexp
 unfold T_math_ldexp at h
 try dsimp only
 obtain ⟨t1, ht1, h⟩ := bnd h
 obtain rfl := feq_s ht1
 refine cond_s h ?_ ?_ <;> intro hc h
 ·
  cases some_inj h
  exact hK _ _ rfl hS
 obtain ⟨o1, h1, c1⟩ := bnd h
 refine cutM_i (fun s w => ∃ (t2 : Bool), t2 = o1 ∧ s = (t2, ()) ∧ Ho w0 w L) (fun J1 hJ1 => ?_) ?_
 ·
  have h := h1
  clear h1
  obtain ⟨t3, ht3, h⟩ := bnd h
  refine wk_math_IsInf H hS  ht3 ?_; rintro w hS
  refine ⟨_, rfl, ?_⟩
  refine cond_s h ?_ ?_ <;> intro hc h
  ·
   obtain ⟨t4, ht4, h⟩ := bnd h
   refine wk_math_IsNaN H hS  ht4 ?_; rintro w hS
   refine ⟨_, rfl, ?_⟩
   obtain rfl := some_inj h
   exact hJ1 _ _ ⟨_, rfl, rfl, hS⟩
  obtain rfl := some_inj h
  exact hJ1 _ _ ⟨_, rfl, rfl, hS⟩
 clear h1 hS
 rintro s w ⟨t2, rfl, rfl, hS⟩
 have h := c1
 clear c1
 try dsimp only
 refine cond_s h ?_ ?_ <;> intro hc h
 ·
  cases some_inj h
  exact hK _ _ rfl hS
 obtain ⟨⟨t5, t6⟩, ho5, h⟩ := bnd h
 refine wk_math_normalize H hS  ho5 ?_; clear hS ho5; rintro z2 w rfl hS
 refine ⟨_, _, rfl, ?_⟩
 obtain ⟨t7, ht7, h⟩ := bnd h
 refine wk_math_Float64bits H hS  ht7 ?_; rintro w hS
 refine ⟨_, rfl, ?_⟩
 refine ⟨by decide, ?_⟩
 refine cond_s h ?_ ?_ <;> intro hc h
 ·
  obtain ⟨t8, ht8, h⟩ := bnd h
  refine wk_math_Copysign H hS  ht8 ?_; rintro z3 w rfl hS
  refine ⟨_, rfl, ?_⟩
  cases some_inj h
  exact hK _ _ rfl hS
 refine cond_s h ?_ ?_ <;> intro hc h
 ·
  obtain ⟨t9, ht9, h⟩ := bnd h
  obtain rfl := flt_s ht9
  refine cond_s h ?_ ?_ <;> intro hc h
  ·
   obtain ⟨t10, ht10, h⟩ := bnd h
   refine wk_math_Inf H hS  ht10 ?_; rintro z4 w rfl hS
   refine ⟨_, rfl, ?_⟩
   cases some_inj h
   exact hK _ _ rfl hS
  obtain ⟨t11, ht11, h⟩ := bnd h
  refine wk_math_Inf H hS  ht11 ?_; rintro z5 w rfl hS
  refine ⟨_, rfl, ?_⟩
  cases some_inj h
  exact hK _ _ rfl hS
 obtain ⟨o7, h7, c7⟩ := bnd h
 refine cutM_i (fun s w => ∃ (t12 : Int) (z6 : Nat), (t12, (nf z6)) = o7 ∧ s = (t12, z6, ()) ∧ Ho w0 w L) (fun J7 hJ7 => ?_) ?_
 ·
  have h := h7
  clear h7
  refine cond_s h ?_ ?_ <;> intro hc h
  ·
   obtain rfl := some_inj h
   exact hJ7 _ _ ⟨_, _, rfl, rfl, hS⟩
  obtain rfl := some_inj h
  exact hJ7 _ _ ⟨_, _, rfl, rfl, hS⟩
 clear h7 hS
 rintro s w ⟨t12, z6, rfl, rfl, hS⟩
 have h := c7
 clear c7
 try dsimp only
 refine ⟨by decide, ?_⟩
 obtain ⟨t14, ht14, h⟩ := bnd h
 refine wk_math_Float64frombits H hS  ht14 ?_; rintro z8 w rfl hS
 refine ⟨_, rfl, ?_⟩
 obtain ⟨t15, ht15, h⟩ := bnd h
 refine fmul_s ht15 hS ?_; rintro z9 w rfl hS
 cases some_inj h
 exact hK _ _ rfl hS
theorem wk_math_Ldexp {q0 q1 u0} (hS : Ho w0 w L)  (h : T_math_Ldexp (nf q0) q1 = some u0) (hK : ∀ (z0 : Nat) (w1 : World), nf z0 = u0 → Ho w0 w1 L → K (.float .f64 z0) w1) : CallsX P N.f_math_Ldexp #[.float .f64 q0, .int .i64 q1] w K := by
 refine H.math_Ldexp q0 q1 w _ ?_
 unfold S_math_Ldexp
 unfold T_math_Ldexp at h
 try dsimp only
 obtain ⟨t1, ht1, h⟩ := bnd h
 refine wk_math_ldexp H hS  ht1 ?_; rintro z1 w rfl hS
 refine ⟨_, rfl, ?_⟩
 cases some_inj h
 exact hK _ _ rfl hS
theorem wk_math_bits_TrailingZeros64 {q0 u0} (hS : Ho w0 w L) (hG : Ent L (tab64 N.g_1)) (hx : T_math_bits_TrailingZeros64 q0 = some u0) (hK : ∀ w1, Ho w0 w1 L → K (.int .i64 u0) w1) : CallsX P N.f_math_bits_TrailingZeros64 #[.int .u64 q0] w K := by
 unfold T_math_bits_TrailingZeros64 at hx
 have hx := some_inj hx
 subst hx
 exact tz64_c H hS hG hK
theorem wk_bits_Split {q0 u0 u1 u2 u3} (hS : Ho w0 w L) (hG : Ent L (tab64 N.g_1)) (h : T_bits_Split (nf q0) = some (u0, u1, u2, u3)) (hK : ∀ w1, Ho w0 w1 L → K (.tuple #[.agg #[.bool u0, .int .u64 u1, .int .i64 u2], .bool u3]) w1) : CallsX P N.f_bits_Split #[.float .f64 q0] w K := by
 refine H.bits_Split q0 w _ ?_
 unfold S_bits_Split
 unfold T_bits_Split at h
 try dsimp only
 refine newM_s hS ?_; intro r1 w hS
 obtain ⟨t1, ht1, h⟩ := bnd h
 refine wk_bits_Kind H hS  ht1 ?_; rintro w hS
 refine ⟨_, rfl, ?_⟩
 refine cond_s h ?_ ?_ <;> intro hc h
 ·
  refine stc_s hS rfl rfl ?_; intro w hS
  refine stc_s hS rfl rfl ?_; intro w hS
  refine stc_s hS rfl rfl ?_; intro w hS
  refine ⟨_, (hS.cel mp0 rfl), ?_⟩
  refine ⟨_, (hS.cel mp0 rfl), ?_⟩
  refine ⟨_, (hS.cel mp0 rfl), ?_⟩
  cases some_inj h
  exact hK _ (hS.pick (A := [_]) [] rfl)
 obtain ⟨t2, ht2, h⟩ := bnd h
 refine wk_math_Signbit H hS  ht2 ?_; rintro w hS
 refine ⟨_, rfl, ?_⟩
 refine newM_s hS ?_; intro r2 w hS
 refine stc_s hS rfl rfl ?_; intro w hS
 refine stc_s hS rfl rfl ?_; intro w hS
 refine stc_s hS rfl rfl ?_; intro w hS
 obtain ⟨t3, ht3, h⟩ := bnd h
 obtain rfl := feq_s ht3
 refine cond_s h ?_ ?_ <;> intro hc h
 ·
  refine ⟨_, (hS.cel mp0 rfl), ?_⟩
  refine ⟨_, (hS.cel mp0 rfl), ?_⟩
  refine ⟨_, (hS.cel mp0 rfl), ?_⟩
  replace hS := ro1 hS
  refine stc_s hS rfl rfl ?_; intro w hS
  refine stc_s hS rfl rfl ?_; intro w hS
  refine stc_s hS rfl rfl ?_; intro w hS
  refine ⟨_, (hS.cel mp0 rfl), ?_⟩
  refine ⟨_, (hS.cel mp0 rfl), ?_⟩
  refine ⟨_, (hS.cel mp0 rfl), ?_⟩
  cases some_inj h
  exact hK _ (hS.pick (A := [_, _]) [] rfl)
 obtain ⟨t4, ht4, h⟩ := bnd h
 refine wk_math_Abs H hS  ht4 ?_; rintro z3 w rfl hS
 refine ⟨_, rfl, ?_⟩
 obtain ⟨⟨t5, t6⟩, ho5, h⟩ := bnd h
 refine wk_math_Frexp H hS  ho5 ?_; clear hS ho5; rintro z4 w rfl hS
 refine ⟨_, _, rfl, ?_⟩
 obtain ⟨t7, ht7, h⟩ := bnd h
 refine wk_math_Ldexp H hS  ht7 ?_; rintro z5 w rfl hS
 refine ⟨_, rfl, ?_⟩
 obtain ⟨t8, ht8, h⟩ := bnd h
 refine f2i_s ht8 hS ?_; intro w hS
 refine stc_s hS rfl rfl ?_; intro w hS
 refine ⟨_, (hS.cel mp0 rfl), ?_⟩
 obtain ⟨t9, ht9, h⟩ := bnd h
 refine wk_math_bits_TrailingZeros64 H hS (hG.mono tl2) ht9 ?_; rintro w hS
 refine ⟨_, rfl, ?_⟩
 refine ⟨_, (hS.cel mp0 rfl), ?_⟩
 obtain ⟨t10, ht10, h⟩ := bnd h
 refine ⟨nn_s ht10, ?_⟩
 refine stc_s hS rfl rfl ?_; intro w hS
 refine stc_s hS rfl rfl ?_; intro w hS
 refine ⟨_, (hS.cel mp0 rfl), ?_⟩
 refine ⟨_, (hS.cel mp0 rfl), ?_⟩
 refine ⟨_, (hS.cel mp0 rfl), ?_⟩
 replace hS := ro1 hS
 refine stc_s hS rfl rfl ?_; intro w hS
 refine stc_s hS rfl rfl ?_; intro w hS
 refine stc_s hS rfl rfl ?_; intro w hS
 refine ⟨_, (hS.cel mp0 rfl), ?_⟩
 refine ⟨_, (hS.cel mp0 rfl), ?_⟩
 refine ⟨_, (hS.cel mp0 rfl), ?_⟩
 cases some_inj h
 exact hK _ (hS.pick (A := [_, _]) [] rfl)
theorem wk_dyad_Of {q0 u0 u1 u2 u3} (hS : Ho w0 w L) (hG : Ent L (tab64 N.g_1)) (h : T_dyad_Of (nf q0) = some (u0, u1, u2, u3)) (hK : ∀ (a1 : Option Addr) (n1 c1 : Nat) (w1 : World), Ho w0 w1 ((sl a1 n1 c1 (List.map (Value.int .u64) u1) N.t_uint64) :: L) → K (.tuple #[.agg #[.bool u0, .slice a1 n1 c1, .int .i64 u2], .int .i64 u3]) w1) : CallsX P N.f_dyad_Of #[.float .f64 q0] w K := by
 refine H.dyad_Of q0 w _ ?_
 unfold S_dyad_Of
 unfold T_dyad_Of at h
 try dsimp only
 refine newM_s hS ?_; intro r1 w hS
 obtain ⟨⟨t1, t2, t3, t4⟩, ho1, h⟩ := bnd h
 refine wk_bits_Split H hS (hG.mono tl1) ho1 ?_; clear hS ho1; rintro w hS
 refine ⟨_, _, _, _, rfl, ?_⟩
 refine newM_s hS ?_; intro r2 w hS
 refine stc_s hS rfl rfl ?_; intro w hS
 refine stc_s hS rfl rfl ?_; intro w hS
 refine stc_s hS rfl rfl ?_; intro w hS
 refine cond_s h ?_ ?_ <;> intro hc h
 ·
  replace hS := ro1 hS
  refine stc_s hS rfl rfl ?_; intro w hS
  refine stc_s hS rfl rfl ?_; intro w hS
  refine stc_s hS rfl rfl ?_; intro w hS
  refine ⟨_, (hS.cel mp0 rfl), ?_⟩
  refine ⟨_, _, _, (hS.cel mp0 rfl), ?_⟩
  refine ⟨_, (hS.cel mp0 rfl), ?_⟩
  replace hS := hS.none (α := Int) (enc := (Value.int .u64)) (t := N.t_uint64)
  cases some_inj h
  exact hK _ _ _ _ (hS.pick (A := [_, _, _]) [0] rfl)
 refine ⟨_, (hS.cel mp0 rfl), ?_⟩
 refine cond_s h ?_ ?_ <;> intro hc h
 ·
  replace hS := ro1 hS
  refine stc_s hS rfl rfl ?_; intro w hS
  refine stc_s hS rfl rfl ?_; intro w hS
  refine stc_s hS rfl rfl ?_; intro w hS
  refine ⟨_, (hS.cel mp0 rfl), ?_⟩
  refine ⟨_, _, _, (hS.cel mp0 rfl), ?_⟩
  refine ⟨_, (hS.cel mp0 rfl), ?_⟩
  replace hS := hS.none (α := Int) (enc := (Value.int .u64)) (t := N.t_uint64)
  cases some_inj h
  exact hK _ _ _ _ (hS.pick (A := [_, _, _]) [0] rfl)
 refine ⟨_, (hS.cel mp0 rfl), ?_⟩
 refine ⟨_, (hS.cel mp0 rfl), ?_⟩
 obtain ⟨t5, ht5, h⟩ := bnd h
 obtain rfl : ([t2] : List Int) = t5 := some_inj ht5
 refine lit_s (ks := [t2]) (enc := (Value.int .u64)) (m := 1) hS rfl rfl ?_; intro r3 w hS
 refine ⟨_, (hS.cel mp1 rfl), ?_⟩
 replace hS := ro2 hS
 refine stc_s hS rfl rfl ?_; intro w hS
 refine stc_s hS rfl rfl ?_; intro w hS
 refine stc_s hS rfl rfl ?_; intro w hS
 refine ⟨_, (hS.cel mp0 rfl), ?_⟩
 refine ⟨_, _, _, (hS.cel mp0 rfl), ?_⟩
 refine ⟨_, (hS.cel mp0 rfl), ?_⟩
 cases some_inj h
 exact hK _ _ _ _ (hS.pick (A := [_, _, _]) [1] rfl)
theorem wk_dyad_Right {q0_0 q0_1 q0_1l q0_1c l0_1 q0_2 u0} (hS : Ho w0 w L) (hq0_1 : EU L l0_1 q0_1 q0_1l q0_1c) (h : T_dyad_Right q0_0 l0_1 q0_2 = some u0) (hK : ∀ w1, Ho w0 w1 L → K (.bool u0) w1) : CallsX P N.f_dyad_Right #[.agg #[.bool q0_0, .slice q0_1 q0_1l q0_1c, .int .i64 q0_2]] w K := by
 refine H.dyad_Right q0_0 q0_1 q0_1l q0_1c q0_2 w _ ?_
 unfold S_dyad_Right
 unfold T_dyad_Right at h
 try dsimp only
 refine newM_s hS ?_; intro r1 w hS
 refine ⟨_, _, _, (hS.cel mp0 rfl), ?_⟩
 obtain ⟨t1, ht1, h⟩ := bnd h
 obtain rfl := lenE ht1 ((hq0_1.mono tl1).now (fun _ h => h) hS)
 refine cond_s h ?_ ?_ <;> intro hc h
 ·
  refine ⟨_, (hS.cel mp0 rfl), ?_⟩
  refine cond_s h ?_ ?_ <;> intro hc h
  ·
   refine ⟨_, (hS.cel mp0 rfl), ?_⟩
   cases some_inj h
   exact hK _ (hS.pick (A := [_]) [] rfl)
  cases some_inj h
  exact hK _ (hS.pick (A := [_]) [] rfl)
 refine cond_s h ?_ ?_ <;> intro hc h
 ·
  refine ⟨_, _, _, (hS.cel mp0 rfl), ?_⟩
  obtain ⟨t2, ht2, h⟩ := bnd h
  obtain ⟨q2x, q2l, q2r⟩ := atE ht2
  refine idx_s ((hq0_1.mono tl1).now (fun _ h => h) hS) q2x q2l q2r ?_; intro b3 hb3
  refine ⟨_, rd_get ((hq0_1.mono tl1).now (fun _ h => h) hS) hb3 q2x, ?_⟩
  refine cond_s h ?_ ?_ <;> intro hc h
  ·
   refine ⟨_, _, _, (hS.cel mp0 rfl), ?_⟩
   obtain ⟨t3, ht3, h⟩ := bnd h
   obtain ⟨q4x, q4l, q4r⟩ := atE ht3
   refine idx_s ((hq0_1.mono tl1).now (fun _ h => h) hS) q4x q4l q4r ?_; intro b5 hb5
   refine ⟨_, rd_get ((hq0_1.mono tl1).now (fun _ h => h) hS) hb5 q4x, ?_⟩
   refine cond_s h ?_ ?_ <;> intro hc h
   ·
    refine ⟨_, (hS.cel mp0 rfl), ?_⟩
    refine cond_s h ?_ ?_ <;> intro hc h
    ·
     refine ⟨_, (hS.cel mp0 rfl), ?_⟩
     cases some_inj h
     exact hK _ (hS.pick (A := [_]) [] rfl)
    cases some_inj h
    exact hK _ (hS.pick (A := [_]) [] rfl)
   cases some_inj h
   exact hK _ (hS.pick (A := [_]) [] rfl)
  cases some_inj h
  exact hK _ (hS.pick (A := [_]) [] rfl)
 cases some_inj h
 exact hK _ (hS.pick (A := [_]) [] rfl)
theorem wk_dyad_both {q0_0 q0_1 q0_1l q0_1c l0_1 q0_2 q1_0 q1_1 q1_1l q1_1c l1_1 q1_2 u0} (hS : Ho w0 w L) (hq0_1 : EU L l0_1 q0_1 q0_1l q0_1c) (hq1_1 : EU L l1_1 q1_1 q1_1l q1_1c) (h : T_dyad_both q0_0 l0_1 q0_2 q1_0 l1_1 q1_2 = some u0) (hK : ∀ w1, Ho w0 w1 L → K (.bool u0) w1) : CallsX P N.f_dyad_both #[.agg #[.bool q0_0, .slice q0_1 q0_1l q0_1c, .int .i64 q0_2], .agg #[.bool q1_0, .slice q1_1 q1_1l q1_1c, .int .i64 q1_2]] w K := by
 refine H.dyad_both q0_0 q0_1 q0_1l q0_1c q0_2 q1_0 q1_1 q1_1l q1_1c q1_2 w _ ?_
 unfold S_dyad_both
 unfold T_dyad_both at h
 try dsimp only
 refine newM_s hS ?_; intro r1 w hS
 refine newM_s hS ?_; intro r2 w hS
 refine ⟨_, (hS.cel mp1 rfl), ?_⟩
 refine ⟨_, _, _, (hS.cel mp1 rfl), ?_⟩
 refine ⟨_, (hS.cel mp1 rfl), ?_⟩
 obtain ⟨t1, ht1, h⟩ := bnd h
 refine wk_dyad_Right H hS (hq0_1.mono tl2) ht1 ?_; rintro w hS
 refine ⟨_, rfl, ?_⟩
 refine cond_s h ?_ ?_ <;> intro hc h
 ·
  refine ⟨_, (hS.cel mp0 rfl), ?_⟩
  refine ⟨_, _, _, (hS.cel mp0 rfl), ?_⟩
  refine ⟨_, (hS.cel mp0 rfl), ?_⟩
  obtain ⟨t2, ht2, h⟩ := bnd h
  refine wk_dyad_Right H hS (hq1_1.mono tl2) ht2 ?_; rintro w hS
  refine ⟨_, rfl, ?_⟩
  cases some_inj h
  exact hK _ (hS.pick (A := [_, _]) [] rfl)
 cases some_inj h
 exact hK _ (hS.pick (A := [_, _]) [] rfl)
theorem wk_dyad_whole {q0_0 q0_1 q0_1l q0_1c l0_1 q0_2 u0} (hS : Ho w0 w L) (hq0_1 : EU L l0_1 q0_1 q0_1l q0_1c) (h : T_dyad_whole q0_0 l0_1 q0_2 = some u0) (hK : ∀ (r0 : Nat) (a0 : Option Addr) (n0 c0 : Nat) (w1 : World), Ho w0 w1 ((bg N.t_bn_Int N.t_uint32 r0 a0 n0 c0 u0) :: L) → K (.pointer (some ⟨r0, 0, none⟩)) w1) : CallsX P N.f_dyad_whole #[.agg #[.bool q0_0, .slice q0_1 q0_1l q0_1c, .int .i64 q0_2]] w K := by
 refine H.dyad_whole q0_0 q0_1 q0_1l q0_1c q0_2 w _ ?_
 unfold S_dyad_whole
 unfold T_dyad_whole at h
 try dsimp only
 refine newM_s hS ?_; intro r1 w hS
 refine newM_s hS ?_; intro r2 w hS; replace hS := Ho.bgNew (E := N.t_uint32) hS
 refine ⟨_, _, _, (hS.cel mp1 rfl), ?_⟩
 obtain ⟨t1, ht1, h⟩ := bnd h
 obtain rfl := lenE ht1 ((hq0_1.mono tl2).now (fun _ h => h) hS)
 obtain ⟨o6, h6, c6⟩ := bnd h
 refine cutM_i (fun s w => ∃ (a3 : Option Addr) (m4 : Nat) (c5 : Nat) (t2 : Int), t2 = o6 ∧ s = (()) ∧ Ho w0 w ((bg N.t_bn_Int N.t_uint32 r2 a3 m4 c5 t2) :: (cl r1 [.bool q0_0, .slice q0_1 q0_1l q0_1c, .int .i64 q0_2] N.t_Dyad) :: L)) (fun J6 hJ6 => ?_) ?_
 ·
  have h := h6
  clear h6
  refine iter_sim (fun s w t => ∃ (t3 : Int) (a7 : Option Addr) (m8 : Nat) (c9 : Nat) (t4 : Int), (t3, t4) = t ∧ s = (t3, ()) ∧ Ho w0 w ((bg N.t_bn_Int N.t_uint32 r2 a7 m8 c9 t4) :: (cl r1 [.bool q0_0, .slice q0_1 q0_1l q0_1c, .int .i64 q0_2] N.t_Dyad) :: L)) ?_ h ⟨_, _, _, _, _, rfl, rfl, hS⟩
  clear h hS
  rintro s w t X q ⟨t3, a7, m8, c9, t4, rfl, rfl, hS⟩ h hX hO
  unfold T_dyad_whole_b2 at h
  try dsimp only
  refine cond_s h ?_ ?_ <;> intro hc h
  ·
   obtain ⟨t5, ht5, h⟩ := bnd h
   refine big_Lsh_zz H hS  ht5 ?_; intro a10 m10 c10 w hS
   refine ⟨_, rfl, ?_⟩
   refine newM_s hS ?_; intro r11 w hS; replace hS := Ho.bgNew (E := N.t_uint32) hS
   refine ⟨_, _, _, (hS.cel mp2 rfl), ?_⟩
   refine ⟨_, _, _, (hS.cel mp2 rfl), ?_⟩
   obtain ⟨t6, ht6, h⟩ := bnd h
   obtain rfl := lenE ht6 ((hq0_1.mono tl3).now (fun _ h => h) hS)
   obtain ⟨t7, ht7, h⟩ := bnd h
   obtain ⟨q12x, q12l, q12r⟩ := atE ht7
   refine idx_s ((hq0_1.mono tl3).now (fun _ h => h) hS) q12x q12l q12r ?_; intro b13 hb13
   refine ⟨_, rd_get ((hq0_1.mono tl3).now (fun _ h => h) hS) hb13 q12x, ?_⟩
   obtain ⟨t8, ht8, h⟩ := bnd h
   refine big_SetUint64_z H hS  ht8 ?_; intro a14 m14 c14 w hS
   refine ⟨_, rfl, ?_⟩
   obtain ⟨t9, ht9, h⟩ := bnd h
   replace hS := ro1 hS
   refine big_Or_zzy H hS (Ent.bg mp0) ht9 ?_; intro a15 m15 c15 w hS
   refine ⟨_, rfl, ?_⟩
   obtain rfl := some_inj h
   exact hX _ rfl _ _ ⟨_, _, _, _, _, rfl, rfl, (hS.pick (A := [_, _, _]) [0, 1] rfl)⟩
  obtain rfl := some_inj h
  have h := congrArg some (hO _ rfl)
  obtain rfl := some_inj h
  exact hJ6 _ _ ⟨_, _, _, _, rfl, rfl, hS⟩
 clear h6 hS
 rintro s w ⟨a3, m4, c5, t2, rfl, rfl, hS⟩
 have h := c6
 clear c6
 try dsimp only
 refine ⟨_, (hS.cel mp1 rfl), ?_⟩
 obtain ⟨o19, h19, c19⟩ := bnd h
 refine cutM_i (fun s w => ∃ (a16 : Option Addr) (m17 : Nat) (c18 : Nat) (t10 : Int), t10 = o19 ∧ s = (()) ∧ Ho w0 w ((bg N.t_bn_Int N.t_uint32 r2 a16 m17 c18 t10) :: L)) (fun J19 hJ19 => ?_) ?_
 ·
  have h := h19
  clear h19
  refine cond_s h ?_ ?_ <;> intro hc h
  ·
   obtain ⟨t11, ht11, h⟩ := bnd h
   refine big_Neg_zz H hS  ht11 ?_; intro a20 m20 c20 w hS
   refine ⟨_, rfl, ?_⟩
   obtain rfl := some_inj h
   exact hJ19 _ _ ⟨_, _, _, _, rfl, rfl, (hS.pick (A := [_, _]) [0] rfl)⟩
  obtain rfl := some_inj h
  exact hJ19 _ _ ⟨_, _, _, _, rfl, rfl, (hS.pick (A := [_, _]) [0] rfl)⟩
 clear h19 hS
 rintro s w ⟨a16, m17, c18, t10, rfl, rfl, hS⟩
 have h := c19
 clear c19
 try dsimp only
 cases some_inj h
 exact hK _ _ _ _ _ hS
theorem wk_dyad_Add {q0_0 q0_1 q0_1l q0_1c l0_1 q0_2 q1_0 q1_1 q1_1l q1_1c l1_1 q1_2 u0 u1 u2 u3} (hS : Ho w0 w L) (hq0_1 : EU L l0_1 q0_1 q0_1l q0_1c) (hq1_1 : EU L l1_1 q1_1 q1_1l q1_1c) (h : T_dyad_Add q0_0 l0_1 q0_2 q1_0 l1_1 q1_2 = some (u0, u1, u2, u3)) (hK : ∀ (a1 : Option Addr) (n1 c1 : Nat) (w1 : World), Ho w0 w1 ((sl a1 n1 c1 (List.map (Value.int .u64) u1) N.t_uint64) :: L) → K (.tuple #[.agg #[.bool u0, .slice a1 n1 c1, .int .i64 u2], .int .i64 u3]) w1) : CallsX P N.f_dyad_Add #[.agg #[.bool q0_0, .slice q0_1 q0_1l q0_1c, .int .i64 q0_2], .agg #[.bool q1_0, .slice q1_1 q1_1l q1_1c, .int .i64 q1_2]] w K := by
 refine H.dyad_Add q0_0 q0_1 q0_1l q0_1c q0_2 q1_0 q1_1 q1_1l q1_1c q1_2 w _ ?_
 unfold S_dyad_Add
 unfold T_dyad_Add at h
 try dsimp only
 refine newM_s hS ?_; intro r1 w hS
 refine newM_s hS ?_; intro r2 w hS
 refine newM_s hS ?_; intro r3 w hS
 refine ⟨_, (hS.cel mp2 rfl), ?_⟩
 refine ⟨_, _, _, (hS.cel mp2 rfl), ?_⟩
 refine ⟨_, (hS.cel mp2 rfl), ?_⟩
 refine ⟨_, (hS.cel mp1 rfl), ?_⟩
 refine ⟨_, _, _, (hS.cel mp1 rfl), ?_⟩
 refine ⟨_, (hS.cel mp1 rfl), ?_⟩
 obtain ⟨t1, ht1, h⟩ := bnd h
 refine wk_dyad_both H hS (hq0_1.mono tl3) (hq1_1.mono tl3) ht1 ?_; rintro w hS
 refine ⟨_, rfl, ?_⟩
 refine cond_s h ?_ ?_ <;> intro hc h
 ·
  refine stc_s hS rfl rfl ?_; intro w hS
  refine stc_s hS rfl rfl ?_; intro w hS
  refine stc_s hS rfl rfl ?_; intro w hS
  refine ⟨_, (hS.cel mp0 rfl), ?_⟩
  refine ⟨_, _, _, (hS.cel mp0 rfl), ?_⟩
  refine ⟨_, (hS.cel mp0 rfl), ?_⟩
  replace hS := hS.none (α := Int) (enc := (Value.int .u64)) (t := N.t_uint64)
  cases some_inj h
  exact hK _ _ _ _ (hS.pick (A := [_, _, _, _]) [0] rfl)
 refine ⟨_, (hS.cel mp2 rfl), ?_⟩
 refine ⟨_, _, _, (hS.cel mp2 rfl), ?_⟩
 refine ⟨_, (hS.cel mp2 rfl), ?_⟩
 refine ⟨_, (hS.cel mp1 rfl), ?_⟩
 refine ⟨_, _, _, (hS.cel mp1 rfl), ?_⟩
 refine ⟨_, (hS.cel mp1 rfl), ?_⟩
 refine drM_s hS ?_; intro w hS
 obtain ⟨t2, ht2, h⟩ := bnd h
 refine wk_dyad_whole H hS (hq0_1.mono tl3) ht2 ?_; rintro r4 a4 m4 c4 w hS
 refine ⟨_, rfl, ?_⟩
 refine ⟨(hS.cel mp2 rfl), ?_⟩
 refine ⟨(hS.cel mp2 rfl), ?_⟩
 refine ⟨(hS.cel mp2 rfl), ?_⟩
 refine drM_s hS ?_; intro w hS
 obtain ⟨t3, ht3, h⟩ := bnd h
 refine wk_dyad_whole H hS (hq1_1.mono tl4) ht3 ?_; rintro r5 a5 m5 c5 w hS
 refine ⟨_, rfl, ?_⟩
 refine drM_s hS ?_; intro w hS
 obtain ⟨o6, h6, c6⟩ := bnd h
 refine cutM_i (fun s w => ∃ (t4 : Bool), t4 = o6 ∧ s = (t4, ()) ∧ Ho w0 w ((bg N.t_bn_Int N.t_uint32 r5 a5 m5 c5 t3) :: (bg N.t_bn_Int N.t_uint32 r4 a4 m4 c4 t2) :: (cl r3 [.bool false, .slice none 0 0, .int .i64 0] N.t_Dyad) :: (cl r2 [.bool q1_0, .slice q1_1 q1_1l q1_1c, .int .i64 q1_2] N.t_Dyad) :: (cl r1 [.bool q0_0, .slice q0_1 q0_1l q0_1c, .int .i64 q0_2] N.t_Dyad) :: L)) (fun J6 hJ6 => ?_) ?_
 ·
  have h := h6
  clear h6
  obtain ⟨t5, ht5, h⟩ := bnd h
  refine big_Sign_x H hS (Ent.bg mp1) ht5 ?_; intro w hS
  refine ⟨_, rfl, ?_⟩
  refine cond_s h ?_ ?_ <;> intro hc h
  ·
   obtain ⟨t6, ht6, h⟩ := bnd h
   refine big_Sign_x H hS (Ent.bg mp0) ht6 ?_; intro w hS
   refine ⟨_, rfl, ?_⟩
   obtain rfl := some_inj h
   exact hJ6 _ _ ⟨_, rfl, rfl, hS⟩
  obtain rfl := some_inj h
  exact hJ6 _ _ ⟨_, rfl, rfl, hS⟩
 clear h6 hS
 rintro s w ⟨t4, rfl, rfl, hS⟩
 have h := c6
 clear c6
 try dsimp only
 refine cond_s h ?_ ?_ <;> intro hc h
 ·
  refine ⟨_, (hS.cel mp4 rfl), ?_⟩
  refine ⟨_, (hS.cel mp3 rfl), ?_⟩
  refine drM_s hS ?_; intro w hS
  obtain ⟨t7, ht7, h⟩ := bnd h
  replace hS := ro1 hS
  refine big_Add_zzy H hS (Ent.bg mp0) ht7 ?_; intro a7 m7 c7 w hS
  refine ⟨_, rfl, ?_⟩
  refine ⟨(hS.cel mp3 rfl), ?_⟩
  refine ⟨(hS.cel mp4 rfl), ?_⟩
  refine drM_s hS ?_; intro w hS
  obtain ⟨⟨t8, t9, t10, t11⟩, ho8, h⟩ := bnd h
  refine wk_dyad_made H hS (Ent.bg mp0) ho8 ?_; clear hS ho8; rintro a8 m8 c8 w hS
  refine ⟨_, _, _, _, _, _, rfl, ?_⟩
  refine drM_s hS ?_; intro w hS
  replace hS := ro3 hS
  refine stc_s hS rfl rfl ?_; intro w hS
  refine stc_s hS rfl rfl ?_; intro w hS
  refine stc_s hS rfl rfl ?_; intro w hS
  refine drM_s hS ?_; intro w hS
  refine ⟨_, (hS.cel mp0 rfl), ?_⟩
  refine ⟨_, _, _, (hS.cel mp0 rfl), ?_⟩
  refine ⟨_, (hS.cel mp0 rfl), ?_⟩
  cases some_inj h
  exact hK _ _ _ _ (hS.pick (A := [_, _, _, _, _, _]) [1] rfl)
 refine ⟨_, (hS.cel mp4 rfl), ?_⟩
 refine ⟨_, (hS.cel mp3 rfl), ?_⟩
 obtain ⟨o27, h27, c27⟩ := bnd h
 refine cutM_i (fun s w => ∃ (t12 : Bool) (t13 : Int) (t14 : Bool) (t15 : Int) (r9 : Nat) (a10 : Option Addr) (m11 : Nat) (c12 : Nat) (t16 : Int) (r13 : Nat) (a14 : Option Addr) (m15 : Nat) (c16 : Nat) (t17 : Int) (a17 : Option Addr) (m18 : Nat) (c19 : Nat) (t18 : List Int) (it20 : It) (a22 : Option Addr) (m23 : Nat) (c24 : Nat) (t19 : List Int) (it25 : It), (t12, t13, t14, t15, t16, t17, t18, t19) = o27 ∧ s = ((some ⟨r9, 0, none⟩), (some ⟨r13, 0, none⟩), ()) ∧ Ent (it20 :: L) (rdA (List.map (Value.int .u64) t18) a17 m18 c19) ∧ Ent (it25 :: L) (rdA (List.map (Value.int .u64) t19) a22 m23 c24) ∧ Ho w0 w ((cl r2 [.bool t12, .slice a17 m18 c19, .int .i64 t13] N.t_Dyad) :: (cl r1 [.bool t14, .slice a22 m23 c24, .int .i64 t15] N.t_Dyad) :: (cl r3 [.bool false, .slice none 0 0, .int .i64 0] N.t_Dyad) :: (bg N.t_bn_Int N.t_uint32 r9 a10 m11 c12 t16) :: (bg N.t_bn_Int N.t_uint32 r13 a14 m15 c16 t17) :: it20 :: it25 :: L)) (fun J27 hJ27 => ?_) ?_
 ·
  have h := h27
  clear h27
  refine cond_s h ?_ ?_ <;> intro hc h
  ·
   refine ⟨_, (hS.cel mp3 rfl), ?_⟩
   refine ⟨_, _, _, (hS.cel mp3 rfl), ?_⟩
   refine ⟨_, (hS.cel mp3 rfl), ?_⟩
   refine ⟨_, (hS.cel mp4 rfl), ?_⟩
   refine ⟨_, _, _, (hS.cel mp4 rfl), ?_⟩
   refine ⟨_, (hS.cel mp4 rfl), ?_⟩
   replace hS := ro4 hS
   refine stc_s hS rfl rfl ?_; intro w hS
   refine stc_s hS rfl rfl ?_; intro w hS
   refine stc_s hS rfl rfl ?_; intro w hS
   replace hS := ro4 hS
   refine stc_s hS rfl rfl ?_; intro w hS
   refine stc_s hS rfl rfl ?_; intro w hS
   refine stc_s hS rfl rfl ?_; intro w hS
   replace hS := hS.voidItem
   replace hS := hS.voidItem
   obtain rfl := some_inj h
   exact hJ27 _ _ ⟨_, _, _, _, _, _, _, _, _, _, _, _, _, _, _, _, _, _, _, _, _, _, _, _, rfl, rfl, (hq0_1.mono tl1), (hq1_1.mono tl1), (hS.pick (A := [_, _, _, _, _, _, _]) [2, 2, 4, 2, 2, 1, 0] rfl)⟩
  replace hS := hS.voidItem
  replace hS := hS.voidItem
  obtain rfl := some_inj h
  exact hJ27 _ _ ⟨_, _, _, _, _, _, _, _, _, _, _, _, _, _, _, _, _, _, _, _, _, _, _, _, rfl, rfl, (hq1_1.mono tl1), (hq0_1.mono tl1), (hS.pick (A := [_, _, _, _, _, _, _]) [5, 5, 4, 3, 2, 1, 0] rfl)⟩
 clear h27 hS
 rintro s w ⟨t12, t13, t14, t15, r9, a10, m11, c12, t16, r13, a14, m15, c16, t17, a17, m18, c19, t18, it20, a22, m23, c24, t19, it25, rfl, rfl, e21, e26, hS⟩
 have h := c27
 clear c27
 try dsimp only
 refine ⟨_, (hS.cel mp1 rfl), ?_⟩
 refine ⟨_, (hS.cel mp0 rfl), ?_⟩
 refine cond_s h ?_ ?_ <;> intro hc h
 ·
  replace hS := ro2 hS
  refine stc_s hS rfl rfl ?_; intro w hS
  refine stc_s hS rfl rfl ?_; intro w hS
  refine stc_s hS rfl rfl ?_; intro w hS
  refine ⟨_, (hS.cel mp0 rfl), ?_⟩
  refine ⟨_, _, _, (hS.cel mp0 rfl), ?_⟩
  refine ⟨_, (hS.cel mp0 rfl), ?_⟩
  replace hS := hS.none (α := Int) (enc := (Value.int .u64)) (t := N.t_uint64)
  cases some_inj h
  exact hK _ _ _ _ (hS.pick (A := [_, _, _, _, _, _, _, _]) [0] rfl)
 refine ⟨_, (hS.cel mp0 rfl), ?_⟩
 refine drM_s hS ?_; intro w hS
 obtain ⟨t20, ht20, h⟩ := bnd h
 replace hS := ro3 hS
 refine big_Lsh_zz H hS  ht20 ?_; intro a28 m28 c28 w hS
 refine ⟨_, rfl, ?_⟩
 refine ⟨(hS.cel mp1 rfl), ?_⟩
 refine drM_s hS ?_; intro w hS
 obtain ⟨t21, ht21, h⟩ := bnd h
 refine big_Add_zzy H hS (Ent.bg mp3) ht21 ?_; intro a29 m29 c29 w hS
 refine ⟨_, rfl, ?_⟩
 refine ⟨(hS.cel mp1 rfl), ?_⟩
 refine drM_s hS ?_; intro w hS
 obtain ⟨⟨t22, t23, t24, t25⟩, ho22, h⟩ := bnd h
 refine wk_dyad_made H hS (Ent.bg mp0) ho22 ?_; clear hS ho22; rintro a30 m30 c30 w hS
 refine ⟨_, _, _, _, _, _, rfl, ?_⟩
 refine drM_s hS ?_; intro w hS
 replace hS := ro4 hS
 refine stc_s hS rfl rfl ?_; intro w hS
 refine stc_s hS rfl rfl ?_; intro w hS
 refine stc_s hS rfl rfl ?_; intro w hS
 refine drM_s hS ?_; intro w hS
 refine ⟨_, (hS.cel mp0 rfl), ?_⟩
 refine ⟨_, _, _, (hS.cel mp0 rfl), ?_⟩
 refine ⟨_, (hS.cel mp0 rfl), ?_⟩
 cases some_inj h
 exact hK _ _ _ _ (hS.pick (A := [_, _, _, _, _, _, _, _]) [1] rfl)
theorem wk_dyad_Scale {q0_0 q0_1 q0_1l q0_1c l0_1 q0_2 q1 u0 u1 u2 u3} (hS : Ho w0 w L) (hq0_1 : EU L l0_1 q0_1 q0_1l q0_1c) (h : T_dyad_Scale q0_0 l0_1 q0_2 q1 = some (u0, u1, u2, u3)) (hK : ∀ (a1 : Option Addr) (n1 c1 : Nat) (w1 : World), Ho w0 w1 ((sl a1 n1 c1 (List.map (Value.int .u64) u1) N.t_uint64) :: L) → K (.tuple #[.agg #[.bool u0, .slice a1 n1 c1, .int .i64 u2], .int .i64 u3]) w1) : CallsX P N.f_dyad_Scale #[.agg #[.bool q0_0, .slice q0_1 q0_1l q0_1c, .int .i64 q0_2], .int .i64 q1] w K := by
 refine H.dyad_Scale q0_0 q0_1 q0_1l q0_1c q0_2 q1 w _ ?_
 unfold S_dyad_Scale
 unfold T_dyad_Scale at h
 try dsimp only
 refine newM_s hS ?_; intro r1 w hS
 refine newM_s hS ?_; intro r2 w hS
 refine ⟨_, (hS.cel mp1 rfl), ?_⟩
 refine ⟨_, _, _, (hS.cel mp1 rfl), ?_⟩
 refine ⟨_, (hS.cel mp1 rfl), ?_⟩
 obtain ⟨t1, ht1, h⟩ := bnd h
 refine wk_dyad_Right H hS (hq0_1.mono tl2) ht1 ?_; rintro w hS
 refine ⟨_, rfl, ?_⟩
 refine cond_s h ?_ ?_ <;> intro hc h
 ·
  refine stc_s hS rfl rfl ?_; intro w hS
  refine stc_s hS rfl rfl ?_; intro w hS
  refine stc_s hS rfl rfl ?_; intro w hS
  refine ⟨_, (hS.cel mp0 rfl), ?_⟩
  refine ⟨_, _, _, (hS.cel mp0 rfl), ?_⟩
  refine ⟨_, (hS.cel mp0 rfl), ?_⟩
  replace hS := hS.none (α := Int) (enc := (Value.int .u64)) (t := N.t_uint64)
  cases some_inj h
  exact hK _ _ _ _ (hS.pick (A := [_, _, _]) [0] rfl)
 refine ⟨_, _, _, (hS.cel mp1 rfl), ?_⟩
 obtain ⟨t2, ht2, h⟩ := bnd h
 obtain rfl := lenE ht2 ((hq0_1.mono tl2).now (fun _ h => h) hS)
 refine cond_s h ?_ ?_ <;> intro hc h
 ·
  refine stc_s hS rfl rfl ?_; intro w hS
  refine stc_s hS rfl rfl ?_; intro w hS
  refine stc_s hS rfl rfl ?_; intro w hS
  refine ⟨_, (hS.cel mp0 rfl), ?_⟩
  refine ⟨_, _, _, (hS.cel mp0 rfl), ?_⟩
  refine ⟨_, (hS.cel mp0 rfl), ?_⟩
  replace hS := hS.none (α := Int) (enc := (Value.int .u64)) (t := N.t_uint64)
  cases some_inj h
  exact hK _ _ _ _ (hS.pick (A := [_, _, _]) [0] rfl)
 obtain ⟨o3, h3, c3⟩ := bnd h
 refine cutM_i (fun s w => ∃ (t3 : Bool), t3 = o3 ∧ s = (t3, ()) ∧ Ho w0 w ((cl r2 [.bool false, .slice none 0 0, .int .i64 0] N.t_Dyad) :: (cl r1 [.bool q0_0, .slice q0_1 q0_1l q0_1c, .int .i64 q0_2] N.t_Dyad) :: L)) (fun J3 hJ3 => ?_) ?_
 ·
  have h := h3
  clear h3
  refine cond_s h ?_ ?_ <;> intro hc h
  ·
   obtain rfl := some_inj h
   exact hJ3 _ _ ⟨_, rfl, rfl, hS⟩
  obtain rfl := some_inj h
  exact hJ3 _ _ ⟨_, rfl, rfl, hS⟩
 clear h3 hS
 rintro s w ⟨t3, rfl, rfl, hS⟩
 have h := c3
 clear c3
 try dsimp only
 refine cond_s h ?_ ?_ <;> intro hc h
 ·
  refine stc_s hS rfl rfl ?_; intro w hS
  refine stc_s hS rfl rfl ?_; intro w hS
  refine stc_s hS rfl rfl ?_; intro w hS
  refine ⟨_, (hS.cel mp0 rfl), ?_⟩
  refine ⟨_, _, _, (hS.cel mp0 rfl), ?_⟩
  refine ⟨_, (hS.cel mp0 rfl), ?_⟩
  replace hS := hS.none (α := Int) (enc := (Value.int .u64)) (t := N.t_uint64)
  cases some_inj h
  exact hK _ _ _ _ (hS.pick (A := [_, _, _]) [0] rfl)
 refine ⟨_, (hS.cel mp1 rfl), ?_⟩
 refine ⟨_, _, _, (hS.cel mp1 rfl), ?_⟩
 refine ⟨_, (hS.cel mp1 rfl), ?_⟩
 refine ⟨_, (hS.cel mp1 rfl), ?_⟩
 refine drM_s hS ?_; intro w hS
 obtain ⟨t4, ht4, h⟩ := bnd h
 refine wk_dyad_whole H hS (hq0_1.mono tl2) ht4 ?_; rintro r4 a4 m4 c4 w hS
 refine ⟨_, rfl, ?_⟩
 refine ⟨(hS.cel mp2 rfl), ?_⟩
 refine drM_s hS ?_; intro w hS
 obtain ⟨⟨t5, t6, t7, t8⟩, ho5, h⟩ := bnd h
 refine wk_dyad_made H hS (Ent.bg mp0) ho5 ?_; clear hS ho5; rintro a5 m5 c5 w hS
 refine ⟨_, _, _, _, _, _, rfl, ?_⟩
 refine drM_s hS ?_; intro w hS
 replace hS := ro2 hS
 refine stc_s hS rfl rfl ?_; intro w hS
 refine stc_s hS rfl rfl ?_; intro w hS
 refine stc_s hS rfl rfl ?_; intro w hS
 refine drM_s hS ?_; intro w hS
 refine ⟨_, (hS.cel mp0 rfl), ?_⟩
 refine ⟨_, _, _, (hS.cel mp0 rfl), ?_⟩
 refine ⟨_, (hS.cel mp0 rfl), ?_⟩
 cases some_inj h
 exact hK _ _ _ _ (hS.pick (A := [_, _, _, _]) [1] rfl)
theorem wk_dyad_Sign {q0_0 q0_1 q0_1l q0_1c l0_1 q0_2 u0 u1} (hS : Ho w0 w L) (hq0_1 : EU L l0_1 q0_1 q0_1l q0_1c) (h : T_dyad_Sign q0_0 l0_1 q0_2 = some (u0, u1)) (hK : ∀ w1, Ho w0 w1 L → K (.tuple #[.int .i64 u0, .int .i64 u1]) w1) : CallsX P N.f_dyad_Sign #[.agg #[.bool q0_0, .slice q0_1 q0_1l q0_1c, .int .i64 q0_2]] w K := by
 refine H.dyad_Sign q0_0 q0_1 q0_1l q0_1c q0_2 w _ ?_
 unfold S_dyad_Sign
 unfold T_dyad_Sign at h
 try dsimp only
 refine newM_s hS ?_; intro r1 w hS
 refine ⟨_, (hS.cel mp0 rfl), ?_⟩
 refine ⟨_, _, _, (hS.cel mp0 rfl), ?_⟩
 refine ⟨_, (hS.cel mp0 rfl), ?_⟩
 obtain ⟨t1, ht1, h⟩ := bnd h
 refine wk_dyad_Right H hS (hq0_1.mono tl1) ht1 ?_; rintro w hS
 refine ⟨_, rfl, ?_⟩
 refine cond_s h ?_ ?_ <;> intro hc h
 ·
  cases some_inj h
  exact hK _ (hS.pick (A := [_]) [] rfl)
 refine ⟨_, _, _, (hS.cel mp0 rfl), ?_⟩
 obtain ⟨t2, ht2, h⟩ := bnd h
 obtain rfl := lenE ht2 ((hq0_1.mono tl1).now (fun _ h => h) hS)
 refine cond_s h ?_ ?_ <;> intro hc h
 ·
  cases some_inj h
  exact hK _ (hS.pick (A := [_]) [] rfl)
 refine ⟨_, (hS.cel mp0 rfl), ?_⟩
 refine cond_s h ?_ ?_ <;> intro hc h
 ·
  cases some_inj h
  exact hK _ (hS.pick (A := [_]) [] rfl)
 cases some_inj h
 exact hK _ (hS.pick (A := [_]) [] rfl)
theorem wk_math_bits_Len64 {q0 u0} (hS : Ho w0 w L)  (hx : T_math_bits_Len64 q0 = some u0) (hK : ∀ w1, Ho w0 w1 L → K (.int .i64 u0) w1) : CallsX P N.f_math_bits_Len64 #[.int .u64 q0] w K := by
 unfold T_math_bits_Len64 at hx
 by_cases hd : 0 ≤ q0 ∧ q0 ≤ 18446744073709551615
 ·
  rw [decide_eq_true hd] at hx
  have hx := some_inj hx
  subst hx
  exact len64_c H hS hd.1 hd.2 hK
 rw [decide_eq_false hd] at hx; cases hx
theorem wk_dyad_top {q0_0 q0_1 q0_1l q0_1c l0_1 q0_2 u0} (hS : Ho w0 w L) (hq0_1 : EU L l0_1 q0_1 q0_1l q0_1c) (h : T_dyad_top q0_0 l0_1 q0_2 = some u0) (hK : ∀ w1, Ho w0 w1 L → K (.int .i64 u0) w1) : CallsX P N.f_dyad_top #[.agg #[.bool q0_0, .slice q0_1 q0_1l q0_1c, .int .i64 q0_2]] w K := by
 refine H.dyad_top q0_0 q0_1 q0_1l q0_1c q0_2 w _ ?_
 unfold S_dyad_top
 unfold T_dyad_top at h
 try dsimp only
 refine newM_s hS ?_; intro r1 w hS
 refine ⟨_, _, _, (hS.cel mp0 rfl), ?_⟩
 obtain ⟨t1, ht1, h⟩ := bnd h
 obtain rfl := lenE ht1 ((hq0_1.mono tl1).now (fun _ h => h) hS)
 refine ⟨_, (hS.cel mp0 rfl), ?_⟩
 refine ⟨_, _, _, (hS.cel mp0 rfl), ?_⟩
 obtain ⟨t2, ht2, h⟩ := bnd h
 obtain ⟨q2x, q2l, q2r⟩ := atE ht2
 refine idx_s ((hq0_1.mono tl1).now (fun _ h => h) hS) q2x q2l q2r ?_; intro b3 hb3
 refine ⟨_, rd_get ((hq0_1.mono tl1).now (fun _ h => h) hS) hb3 q2x, ?_⟩
 refine drM_s hS ?_; intro w hS
 obtain ⟨t3, ht3, h⟩ := bnd h
 refine wk_math_bits_Len64 H hS  ht3 ?_; rintro w hS
 refine ⟨_, rfl, ?_⟩
 refine ⟨(hS.cel mp0 rfl), ?_⟩
 refine drM_s hS ?_; intro w hS
 cases some_inj h
 exact hK _ (hS.pick (A := [_]) [] rfl)
theorem wk_dyad_Cmp {q0_0 q0_1 q0_1l q0_1c l0_1 q0_2 q1_0 q1_1 q1_1l q1_1c l1_1 q1_2 u0 u1} (hS : Ho w0 w L) (hq0_1 : EU L l0_1 q0_1 q0_1l q0_1c) (hq1_1 : EU L l1_1 q1_1 q1_1l q1_1c) (h : T_dyad_Cmp q0_0 l0_1 q0_2 q1_0 l1_1 q1_2 = some (u0, u1)) (hK : ∀ w1, Ho w0 w1 L → K (.tuple #[.int .i64 u0, .int .i64 u1]) w1) : CallsX P N.f_dyad_Cmp #[.agg #[.bool q0_0, .slice q0_1 q0_1l q0_1c, .int .i64 q0_2], .agg #[.bool q1_0, .slice q1_1 q1_1l q1_1c, .int .i64 q1_2]] w K := by
 refine H.dyad_Cmp q0_0 q0_1 q0_1l q0_1c q0_2 q1_0 q1_1 q1_1l q1_1c q1_2 w _ ?_
 unfold S_dyad_Cmp
 unfold T_dyad_Cmp at h
 try dsimp only
 refine newM_s hS ?_; intro r1 w hS
 refine newM_s hS ?_; intro r2 w hS
 refine ⟨_, (hS.cel mp1 rfl), ?_⟩
 refine ⟨_, _, _, (hS.cel mp1 rfl), ?_⟩
 refine ⟨_, (hS.cel mp1 rfl), ?_⟩
 obtain ⟨⟨t1, t2⟩, ho1, h⟩ := bnd h
 refine wk_dyad_Sign H hS (hq0_1.mono tl2) ho1 ?_; clear hS ho1; rintro w hS
 refine ⟨_, _, rfl, ?_⟩
 refine ⟨_, (hS.cel mp0 rfl), ?_⟩
 refine ⟨_, _, _, (hS.cel mp0 rfl), ?_⟩
 refine ⟨_, (hS.cel mp0 rfl), ?_⟩
 obtain ⟨⟨t3, t4⟩, ho3, h⟩ := bnd h
 refine wk_dyad_Sign H hS (hq1_1.mono tl2) ho3 ?_; clear hS ho3; rintro w hS
 refine ⟨_, _, rfl, ?_⟩
 obtain ⟨o3, h3, c3⟩ := bnd h
 refine cutM_i (fun s w => ∃ (t5 : Bool), t5 = o3 ∧ s = (t5, ()) ∧ Ho w0 w ((cl r2 [.bool q1_0, .slice q1_1 q1_1l q1_1c, .int .i64 q1_2] N.t_Dyad) :: (cl r1 [.bool q0_0, .slice q0_1 q0_1l q0_1c, .int .i64 q0_2] N.t_Dyad) :: L)) (fun J3 hJ3 => ?_) ?_
 ·
  have h := h3
  clear h3
  refine cond_s h ?_ ?_ <;> intro hc h
  ·
   obtain rfl := some_inj h
   exact hJ3 _ _ ⟨_, rfl, rfl, hS⟩
  obtain rfl := some_inj h
  exact hJ3 _ _ ⟨_, rfl, rfl, hS⟩
 clear h3 hS
 rintro s w ⟨t5, rfl, rfl, hS⟩
 have h := c3
 clear c3
 try dsimp only
 refine cond_s h ?_ ?_ <;> intro hc h
 ·
  cases some_inj h
  exact hK _ (hS.pick (A := [_, _]) [] rfl)
 refine cond_s h ?_ ?_ <;> intro hc h
 ·
  refine cond_s h ?_ ?_ <;> intro hc h
  ·
   cases some_inj h
   exact hK _ (hS.pick (A := [_, _]) [] rfl)
  cases some_inj h
  exact hK _ (hS.pick (A := [_, _]) [] rfl)
 refine cond_s h ?_ ?_ <;> intro hc h
 ·
  cases some_inj h
  exact hK _ (hS.pick (A := [_, _]) [] rfl)
 refine ⟨_, (hS.cel mp1 rfl), ?_⟩
 refine ⟨_, _, _, (hS.cel mp1 rfl), ?_⟩
 refine ⟨_, (hS.cel mp1 rfl), ?_⟩
 refine ⟨_, (hS.cel mp0 rfl), ?_⟩
 refine ⟨_, _, _, (hS.cel mp0 rfl), ?_⟩
 refine ⟨_, (hS.cel mp0 rfl), ?_⟩
 refine drM_s hS ?_; intro w hS
 obtain ⟨t6, ht6, h⟩ := bnd h
 refine wk_dyad_top H hS (hq0_1.mono tl2) ht6 ?_; rintro w hS
 refine ⟨_, rfl, ?_⟩
 refine ⟨(hS.cel mp0 rfl), ?_⟩
 refine ⟨(hS.cel mp0 rfl), ?_⟩
 refine ⟨(hS.cel mp0 rfl), ?_⟩
 refine drM_s hS ?_; intro w hS
 obtain ⟨t7, ht7, h⟩ := bnd h
 refine wk_dyad_top H hS (hq1_1.mono tl2) ht7 ?_; rintro w hS
 refine ⟨_, rfl, ?_⟩
 refine drM_s hS ?_; intro w hS
 refine cond_s h ?_ ?_ <;> intro hc h
 ·
  refine ⟨_, (hS.cel mp1 rfl), ?_⟩
  refine ⟨_, _, _, (hS.cel mp1 rfl), ?_⟩
  refine ⟨_, (hS.cel mp1 rfl), ?_⟩
  refine ⟨_, (hS.cel mp0 rfl), ?_⟩
  refine ⟨_, _, _, (hS.cel mp0 rfl), ?_⟩
  refine ⟨_, (hS.cel mp0 rfl), ?_⟩
  refine drM_s hS ?_; intro w hS
  obtain ⟨t8, ht8, h⟩ := bnd h
  refine wk_dyad_top H hS (hq0_1.mono tl2) ht8 ?_; rintro w hS
  refine ⟨_, rfl, ?_⟩
  refine ⟨(hS.cel mp0 rfl), ?_⟩
  refine ⟨(hS.cel mp0 rfl), ?_⟩
  refine ⟨(hS.cel mp0 rfl), ?_⟩
  refine drM_s hS ?_; intro w hS
  obtain ⟨t9, ht9, h⟩ := bnd h
  refine wk_dyad_top H hS (hq1_1.mono tl2) ht9 ?_; rintro w hS
  refine ⟨_, rfl, ?_⟩
  refine drM_s hS ?_; intro w hS
  refine cond_s h ?_ ?_ <;> intro hc h
  ·
   cases some_inj h
   exact hK _ (hS.pick (A := [_, _]) [] rfl)
  cases some_inj h
  exact hK _ (hS.pick (A := [_, _]) [] rfl)
 refine ⟨_, (hS.cel mp1 rfl), ?_⟩
 refine ⟨_, _, _, (hS.cel mp1 rfl), ?_⟩
 refine ⟨_, (hS.cel mp1 rfl), ?_⟩
 refine ⟨_, (hS.cel mp0 rfl), ?_⟩
 refine ⟨_, _, _, (hS.cel mp0 rfl), ?_⟩
 refine ⟨_, (hS.cel mp0 rfl), ?_⟩
 refine drM_s hS ?_; intro w hS
 obtain ⟨t10, ht10, h⟩ := bnd h
 refine wk_dyad_whole H hS (hq0_1.mono tl2) ht10 ?_; rintro r4 a4 m4 c4 w hS
 refine ⟨_, rfl, ?_⟩
 refine ⟨(hS.cel mp1 rfl), ?_⟩
 refine ⟨(hS.cel mp1 rfl), ?_⟩
 refine ⟨(hS.cel mp1 rfl), ?_⟩
 refine drM_s hS ?_; intro w hS
 obtain ⟨t11, ht11, h⟩ := bnd h
 refine wk_dyad_whole H hS (hq1_1.mono tl3) ht11 ?_; rintro r5 a5 m5 c5 w hS
 refine ⟨_, rfl, ?_⟩
 refine drM_s hS ?_; intro w hS
 refine ⟨_, (hS.cel mp3 rfl), ?_⟩
 refine ⟨_, (hS.cel mp2 rfl), ?_⟩
 obtain ⟨o12, h12, c12⟩ := bnd h
 refine cutM_i (fun s w => ∃ (a6 : Option Addr) (m7 : Nat) (c8 : Nat) (t12 : Int) (a9 : Option Addr) (m10 : Nat) (c11 : Nat) (t13 : Int), (t12, t13) = o12 ∧ s = (()) ∧ Ho w0 w ((bg N.t_bn_Int N.t_uint32 r4 a6 m7 c8 t12) :: (bg N.t_bn_Int N.t_uint32 r5 a9 m10 c11 t13) :: L)) (fun J12 hJ12 => ?_) ?_
 ·
  have h := h12
  clear h12
  refine cond_s h ?_ ?_ <;> intro hc h
  ·
   refine ⟨_, (hS.cel mp3 rfl), ?_⟩
   refine ⟨_, (hS.cel mp2 rfl), ?_⟩
   obtain ⟨t14, ht14, h⟩ := bnd h
   replace hS := ro1 hS
   refine big_Lsh_zz H hS  ht14 ?_; intro a13 m13 c13 w hS
   refine ⟨_, rfl, ?_⟩
   obtain rfl := some_inj h
   exact hJ12 _ _ ⟨_, _, _, _, _, _, _, _, rfl, rfl, (hS.pick (A := [_, _, _, _]) [0, 0] rfl)⟩
  refine ⟨_, (hS.cel mp2 rfl), ?_⟩
  refine ⟨_, (hS.cel mp3 rfl), ?_⟩
  obtain ⟨t15, ht15, h⟩ := bnd h
  refine big_Lsh_zz H hS  ht15 ?_; intro a14 m14 c14 w hS
  refine ⟨_, rfl, ?_⟩
  obtain rfl := some_inj h
  exact hJ12 _ _ ⟨_, _, _, _, _, _, _, _, rfl, rfl, (hS.pick (A := [_, _, _, _]) [1, 0] rfl)⟩
 clear h12 hS
 rintro s w ⟨a6, m7, c8, t12, a9, m10, c11, t13, rfl, rfl, hS⟩
 have h := c12
 clear c12
 try dsimp only
 obtain ⟨t16, ht16, h⟩ := bnd h
 refine big_Cmp_xy H hS (Ent.bg mp0) (Ent.bg mp1) ht16 ?_; intro w hS
 refine ⟨_, rfl, ?_⟩
 cases some_inj h
 exact hK _ (hS.pick (A := [_, _]) [] rfl)
theorem wk_w09_VectorNorm {q0 q0l q0c ws0 u0} (hS : Ho w0 w L) (hq0 : EF L ws0 q0 q0l q0c) (hG : Ent L (tab64 N.g_1)) (h : T_w09_VectorNorm (List.map nf ws0) = some u0) (hK : ∀ w1, Ho w0 w1 L → K (.bool u0) w1) : CallsX P N.f_w09_VectorNorm #[.slice q0 q0l q0c] w K := by
 refine H.w09_VectorNorm q0 q0l q0c w _ ?_
 unfold S_w09_VectorNorm
 unfold T_w09_VectorNorm at h
 try dsimp only
 obtain ⟨t1, ht1, h⟩ := bnd h
 refine wk_w09_awake H hS  ht1 ?_; rintro w hS
 refine ⟨_, rfl, ?_⟩
 refine cond_s h ?_ ?_ <;> intro hc h
 ·
  cases some_inj h
  exact hK _ hS
 obtain ⟨t2, ht2, h⟩ := bnd h
 obtain rfl := lenF ht2 (hq0.now (fun _ h => h) hS)
 obtain ⟨o7, h7, c7⟩ := bnd h
 refine cutM_i (fun s w => ∃ (a1 : Option Addr) (m2 : Nat) (c3 : Nat) (ws4 : List Nat) (it5 : It), (List.map nf ws4) = o7 ∧ s = ((a1, m2, c3), ()) ∧ Ent (it5 :: L) (rdA (List.map (Value.float .f64) ws4) a1 m2 c3) ∧ Ho w0 w (it5 :: L)) (fun J7 hJ7 => ?_) ?_
 ·
  have h := h7
  clear h7
  refine cond_s h ?_ ?_ <;> intro hc h
  ·
   obtain ⟨t4, ht4, h⟩ := bnd h
   obtain ⟨rfl, q80, q81, q82⟩ := subF ht4
   have q83 := (hq0.now (fun _ h => h) hS).hiCap q82
   refine ⟨(by first | exact q81 | omega), (by first | exact q83 | omega), ?_⟩
   replace hS := hS.voidItem
   obtain rfl := some_inj h
   exact hJ7 _ _ ⟨_, _, _, _, _, rfl, rfl, (Ent.upto (hq0.mono tl1) q81 q82), hS⟩
  replace hS := hS.voidItem
  obtain rfl := some_inj h
  exact hJ7 _ _ ⟨_, _, _, _, _, rfl, rfl, (hq0.mono tl1), hS⟩
 clear h7 hS
 rintro s w ⟨a1, m2, c3, ws4, it5, rfl, rfl, e6, hS⟩
 have h := c7
 clear c7
 try dsimp only
 obtain ⟨t5, ht5, h⟩ := bnd h
 refine wk_vector_Norm H hS (e6.mono (incl_cons mp0 tl1)) ht5 ?_; rintro z9 w rfl hS
 refine ⟨_, rfl, ?_⟩
 obtain ⟨⟨t6, t7⟩, ho6, h⟩ := bnd h
 refine wk_vector_Most H hS (e6.mono (incl_cons mp0 tl1)) ho6 ?_; clear hS ho6; rintro z10 w rfl hS
 refine ⟨_, _, rfl, ?_⟩
 obtain ⟨⟨t8, t9, t10⟩, ho8, h⟩ := bnd h
 refine wk_dyad_Int H hS  ho8 ?_; clear hS ho8; rintro a11 m11 c11 w hS
 refine ⟨_, _, _, _, _, rfl, ?_⟩
 refine newM_s hS ?_; intro r12 w hS
 refine stc_s hS rfl rfl ?_; intro w hS
 refine stc_s hS rfl rfl ?_; intro w hS
 refine stc_s hS rfl rfl ?_; intro w hS
 obtain ⟨o13, h13, c13⟩ := bnd h
 refine cutM_i (fun s w => ∃ (t11 : Bool), .inl t11 = o13 ∧ s = (t11, ()) ∧ Ho w0 w ((cl r12 [.bool t8, .slice a11 m11 c11, .int .i64 t10] N.t_Dyad) :: (sl a11 m11 c11 (List.map (Value.int .u64) t9) N.t_uint64) :: it5 :: L)) (fun J13 hJ13 => ?_) ?_
 ·
  have h := h13
  clear h13
  refine iter_sim (fun s w t => ∃ (t12 : Bool) (t13 : Int), (t12, t13) = t ∧ s = (t12, t13, ()) ∧ Ho w0 w ((cl r12 [.bool t8, .slice a11 m11 c11, .int .i64 t10] N.t_Dyad) :: (sl a11 m11 c11 (List.map (Value.int .u64) t9) N.t_uint64) :: it5 :: L)) ?_ h ⟨_, _, rfl, rfl, hS⟩
  clear h hS
  rintro s w t X q ⟨t12, t13, rfl, rfl, hS⟩ h hX hO
  unfold T_w09_VectorNorm_b2 at h
  try dsimp only
  obtain ⟨t14, ht14, h⟩ := bnd h
  obtain rfl := lenF ht14 ((e6.mono (incl_cons mp2 tl3)).now (fun _ h => h) hS)
  refine cond_s h ?_ ?_ <;> intro hc h
  ·
   obtain ⟨t15, ht15, h⟩ := bnd h
   obtain ⟨z14, rfl, q15x, q15l, q15r⟩ := atF ht15
   refine idx_s ((e6.mono (incl_cons mp2 tl3)).now (fun _ h => h) hS) q15x q15l q15r ?_; intro b16 hb16
   refine ⟨_, rd_get ((e6.mono (incl_cons mp2 tl3)).now (fun _ h => h) hS) hb16 q15x, ?_⟩
   obtain ⟨t16, ht16, h⟩ := bnd h
   obtain ⟨z17, rfl, q18x, q18l, q18r⟩ := atF ht16
   refine idx_s ((e6.mono (incl_cons mp2 tl3)).now (fun _ h => h) hS) q18x q18l q18r ?_; intro b19 hb19
   refine ⟨_, rd_get ((e6.mono (incl_cons mp2 tl3)).now (fun _ h => h) hS) hb19 q18x, ?_⟩
   obtain ⟨t17, ht17, h⟩ := bnd h
   obtain rfl := fne_s ht17
   refine drM_s hS ?_; intro w hS
   refine cond_s h ?_ ?_ <;> intro hc h
   ·
    obtain ⟨t18, ht18, h⟩ := bnd h
    obtain rfl := fne_s ht18
    refine cond_s h ?_ ?_ <;> intro hc h
    ·
     obtain rfl := some_inj h
     have h := congrArg some (hO _ rfl)
     obtain rfl := some_inj h
     have h := c13
     cases some_inj h
     exact hK _ (hS.pick (A := [_, _, _]) [] rfl)
    obtain rfl := some_inj h
    have h := congrArg some (hO _ rfl)
    obtain rfl := some_inj h
    have h := c13
    cases some_inj h
    exact hK _ (hS.pick (A := [_, _, _]) [] rfl)
   obtain ⟨t19, ht19, h⟩ := bnd h
   obtain ⟨z20, rfl, q21x, q21l, q21r⟩ := atF ht19
   refine idx_s ((e6.mono (incl_cons mp2 tl3)).now (fun _ h => h) hS) q21x q21l q21r ?_; intro b22 hb22
   refine ⟨_, rd_get ((e6.mono (incl_cons mp2 tl3)).now (fun _ h => h) hS) hb22 q21x, ?_⟩
   obtain ⟨t20, ht20, h⟩ := bnd h
   refine wk_math_Abs H hS  ht20 ?_; rintro z23 w rfl hS
   refine ⟨_, rfl, ?_⟩
   obtain ⟨t21, ht21, h⟩ := bnd h
   obtain rfl := fgt_s ht21
   refine cond_s h ?_ ?_ <;> intro hc h
   ·
    refine cond_s h ?_ ?_ <;> intro hc h
    ·
     refine cond_s h ?_ ?_ <;> intro hc h
     ·
      obtain ⟨t22, ht22, h⟩ := bnd h
      obtain ⟨z24, rfl, q25x, q25l, q25r⟩ := atF ht22
      refine idx_s ((e6.mono (incl_cons mp2 tl3)).now (fun _ h => h) hS) q25x q25l q25r ?_; intro b26 hb26
      refine ⟨_, rd_get ((e6.mono (incl_cons mp2 tl3)).now (fun _ h => h) hS) hb26 q25x, ?_⟩
      obtain ⟨t23, ht23, h⟩ := bnd h
      refine wk_math_Abs H hS  ht23 ?_; rintro z27 w rfl hS
      refine ⟨_, rfl, ?_⟩
      obtain ⟨t24, ht24, h⟩ := bnd h
      obtain rfl := feq_s ht24
      refine cond_s h ?_ ?_ <;> intro hc h
      ·
       obtain rfl := some_inj h
       have h := congrArg some (hO _ rfl)
       obtain rfl := some_inj h
       have h := c13
       cases some_inj h
       exact hK _ (hS.pick (A := [_, _, _]) [] rfl)
      refine cond_s h ?_ ?_ <;> intro hc h
      ·
       obtain ⟨t25, ht25, h⟩ := bnd h
       obtain ⟨z28, rfl, q29x, q29l, q29r⟩ := atF ht25
       refine idx_s ((e6.mono (incl_cons mp2 tl3)).now (fun _ h => h) hS) q29x q29l q29r ?_; intro b30 hb30
       refine ⟨_, rd_get ((e6.mono (incl_cons mp2 tl3)).now (fun _ h => h) hS) hb30 q29x, ?_⟩
       obtain ⟨t26, ht26, h⟩ := bnd h
       refine wk_k_Finite H hS  ht26 ?_; rintro w hS
       refine ⟨_, rfl, ?_⟩
       obtain rfl := some_inj h
       exact hX _ rfl _ _ ⟨_, _, rfl, rfl, hS⟩
      obtain rfl := some_inj h
      exact hX _ rfl _ _ ⟨_, _, rfl, rfl, hS⟩
     refine cond_s h ?_ ?_ <;> intro hc h
     ·
      obtain ⟨t27, ht27, h⟩ := bnd h
      obtain ⟨z31, rfl, q32x, q32l, q32r⟩ := atF ht27
      refine idx_s ((e6.mono (incl_cons mp2 tl3)).now (fun _ h => h) hS) q32x q32l q32r ?_; intro b33 hb33
      refine ⟨_, rd_get ((e6.mono (incl_cons mp2 tl3)).now (fun _ h => h) hS) hb33 q32x, ?_⟩
      obtain ⟨t28, ht28, h⟩ := bnd h
      refine wk_k_Finite H hS  ht28 ?_; rintro w hS
      refine ⟨_, rfl, ?_⟩
      obtain rfl := some_inj h
      exact hX _ rfl _ _ ⟨_, _, rfl, rfl, hS⟩
     obtain rfl := some_inj h
     exact hX _ rfl _ _ ⟨_, _, rfl, rfl, hS⟩
    obtain rfl := some_inj h
    have h := congrArg some (hO _ rfl)
    obtain rfl := some_inj h
    have h := c13
    cases some_inj h
    exact hK _ (hS.pick (A := [_, _, _]) [] rfl)
   obtain rfl := some_inj h
   have h := congrArg some (hO _ rfl)
   obtain rfl := some_inj h
   have h := c13
   cases some_inj h
   exact hK _ (hS.pick (A := [_, _, _]) [] rfl)
  obtain rfl := some_inj h
  have h := congrArg some (hO _ rfl)
  obtain rfl := some_inj h
  exact hJ13 _ _ ⟨_, rfl, rfl, hS⟩
 clear h13 hS
 rintro s w ⟨t11, rfl, rfl, hS⟩
 have h := c13
 clear c13
 try dsimp only
 obtain ⟨o34, h34, c34⟩ := bnd h
 refine cutM_i (fun s w => ∃ (t29 : Bool), t29 = o34 ∧ s = (t29, ()) ∧ Ho w0 w ((cl r12 [.bool t8, .slice a11 m11 c11, .int .i64 t10] N.t_Dyad) :: (sl a11 m11 c11 (List.map (Value.int .u64) t9) N.t_uint64) :: it5 :: L)) (fun J34 hJ34 => ?_) ?_
 ·
  have h := h34
  clear h34
  obtain ⟨t30, ht30, h⟩ := bnd h
  obtain rfl := lenF ht30 ((e6.mono (incl_cons mp2 tl3)).now (fun _ h => h) hS)
  refine cond_s h ?_ ?_ <;> intro hc h
  ·
   obtain ⟨t31, ht31, h⟩ := bnd h
   obtain rfl := lenF ht31 ((e6.mono (incl_cons mp2 tl3)).now (fun _ h => h) hS)
   refine cond_s h ?_ ?_ <;> intro hc h
   ·
    refine cond_s h ?_ ?_ <;> intro hc h
    ·
     obtain ⟨t32, ht32, h⟩ := bnd h
     obtain ⟨z35, rfl, q36x, q36l, q36r⟩ := atF ht32
     refine idx_s ((e6.mono (incl_cons mp2 tl3)).now (fun _ h => h) hS) q36x q36l q36r ?_; intro b37 hb37
     refine ⟨_, rd_get ((e6.mono (incl_cons mp2 tl3)).now (fun _ h => h) hS) hb37 q36x, ?_⟩
     obtain ⟨t33, ht33, h⟩ := bnd h
     refine wk_math_Abs H hS  ht33 ?_; rintro z38 w rfl hS
     refine ⟨_, rfl, ?_⟩
     obtain ⟨t34, ht34, h⟩ := bnd h
     obtain rfl := fne_s ht34
     refine cond_s h ?_ ?_ <;> intro hc h
     ·
      obtain ⟨t35, ht35, h⟩ := bnd h
      obtain rfl := fle_s ht35
      refine cond_s h ?_ ?_ <;> intro hc h
      ·
       obtain ⟨t36, ht36, h⟩ := bnd h
       refine wk_math_Signbit H hS  ht36 ?_; rintro w hS
       refine ⟨_, rfl, ?_⟩
       refine cond_s h ?_ ?_ <;> intro hc h
       ·
        obtain ⟨t37, ht37, h⟩ := bnd h
        refine wk_math_Signbit H hS  ht37 ?_; rintro w hS
        refine ⟨_, rfl, ?_⟩
        obtain rfl := some_inj h
        exact hJ34 _ _ ⟨_, rfl, rfl, hS⟩
       obtain rfl := some_inj h
       exact hJ34 _ _ ⟨_, rfl, rfl, hS⟩
      obtain rfl := some_inj h
      exact hJ34 _ _ ⟨_, rfl, rfl, hS⟩
     obtain rfl := some_inj h
     exact hJ34 _ _ ⟨_, rfl, rfl, hS⟩
    obtain ⟨t38, ht38, h⟩ := bnd h
    obtain rfl := fle_s ht38
    refine cond_s h ?_ ?_ <;> intro hc h
    ·
     obtain ⟨t39, ht39, h⟩ := bnd h
     refine wk_math_Signbit H hS  ht39 ?_; rintro w hS
     refine ⟨_, rfl, ?_⟩
     refine cond_s h ?_ ?_ <;> intro hc h
     ·
      obtain ⟨t40, ht40, h⟩ := bnd h
      refine wk_math_Signbit H hS  ht40 ?_; rintro w hS
      refine ⟨_, rfl, ?_⟩
      obtain rfl := some_inj h
      exact hJ34 _ _ ⟨_, rfl, rfl, hS⟩
     obtain rfl := some_inj h
     exact hJ34 _ _ ⟨_, rfl, rfl, hS⟩
    obtain rfl := some_inj h
    exact hJ34 _ _ ⟨_, rfl, rfl, hS⟩
   obtain rfl := some_inj h
   exact hJ34 _ _ ⟨_, rfl, rfl, hS⟩
  obtain rfl := some_inj h
  exact hJ34 _ _ ⟨_, rfl, rfl, hS⟩
 clear h34 hS
 rintro s w ⟨t29, rfl, rfl, hS⟩
 have h := c34
 clear c34
 try dsimp only
 refine cond_s h ?_ ?_ <;> intro hc h
 ·
  cases some_inj h
  exact hK _ (hS.pick (A := [_, _, _]) [] rfl)
 refine cond_s h ?_ ?_ <;> intro hc h
 ·
  obtain ⟨t41, ht41, h⟩ := bnd h
  refine wk_math_IsInf H hS  ht41 ?_; rintro w hS
  refine ⟨_, rfl, ?_⟩
  cases some_inj h
  exact hK _ (hS.pick (A := [_, _, _]) [] rfl)
 obtain ⟨o42, h42, c42⟩ := bnd h
 refine cutM_i (fun s w => ∃ (t42 : Int) (t43 : Bool) (t44 : Int) (a39 : Option Addr) (m40 : Nat) (c41 : Nat) (t45 : List Int), (t42, t43, t44, t45) = o42 ∧ s = (t42, ()) ∧ Ho w0 w ((cl r12 [.bool t43, .slice a39 m40 c41, .int .i64 t44] N.t_Dyad) :: (sl a39 m40 c41 (List.map (Value.int .u64) t45) N.t_uint64) :: L)) (fun J42 hJ42 => ?_) ?_
 ·
  have h := h42
  clear h42
  refine iter_sim (fun s w t => ∃ (t46 : Int) (t47 : Int) (t48 : Bool) (t49 : Int) (a43 : Option Addr) (m44 : Nat) (c45 : Nat) (t50 : List Int), (t46, t47, t48, t49, t50) = t ∧ s = (t46, t47, ()) ∧ Ho w0 w ((cl r12 [.bool t48, .slice a43 m44 c45, .int .i64 t49] N.t_Dyad) :: it5 :: (sl a43 m44 c45 (List.map (Value.int .u64) t50) N.t_uint64) :: L)) ?_ h ⟨_, _, _, _, _, _, _, _, rfl, rfl, (hS.pick (A := [_, _, _]) [0, 1, 0] rfl)⟩
  clear h hS
  rintro s w t X q ⟨t46, t47, t48, t49, a43, m44, c45, t50, rfl, rfl, hS⟩ h hX hO
  unfold T_w09_VectorNorm_b4 at h
  try dsimp only
  obtain ⟨o46, h46, c46⟩ := bnd h
  refine cutM_i (fun s w => ∃ (t51 : Bool), t51 = o46 ∧ s = (t51, ()) ∧ Ho w0 w ((cl r12 [.bool t48, .slice a43 m44 c45, .int .i64 t49] N.t_Dyad) :: it5 :: (sl a43 m44 c45 (List.map (Value.int .u64) t50) N.t_uint64) :: L)) (fun J46 hJ46 => ?_) ?_
  ·
   have h := h46
   clear h46
   obtain ⟨t52, ht52, h⟩ := bnd h
   obtain rfl := lenF ht52 ((e6.mono (incl_cons mp1 tl3)).now (fun _ h => h) hS)
   refine cond_s h ?_ ?_ <;> intro hc h
   ·
    obtain rfl := some_inj h
    exact hJ46 _ _ ⟨_, rfl, rfl, hS⟩
   obtain rfl := some_inj h
   exact hJ46 _ _ ⟨_, rfl, rfl, hS⟩
  clear h46 hS
  rintro s w ⟨t51, rfl, rfl, hS⟩
  have h := c46
  clear c46
  try dsimp only
  refine cond_s h ?_ ?_ <;> intro hc h
  ·
   obtain ⟨o50, h50, c50⟩ := bnd h
   refine cutM_i (fun s w => ∃ (t53 : Int) (t54 : Bool) (t55 : Int) (a47 : Option Addr) (m48 : Nat) (c49 : Nat) (t56 : List Int), (t53, t54, t55, t56) = o50 ∧ s = (t53, ()) ∧ Ho w0 w ((cl r12 [.bool t54, .slice a47 m48 c49, .int .i64 t55] N.t_Dyad) :: it5 :: (sl a47 m48 c49 (List.map (Value.int .u64) t56) N.t_uint64) :: L)) (fun J50 hJ50 => ?_) ?_
   ·
    have h := h50
    clear h50
    refine newM_s hS ?_; intro r51 w hS
    obtain ⟨t57, ht57, h⟩ := bnd h
    obtain ⟨z52, rfl, q53x, q53l, q53r⟩ := atF ht57
    refine idx_s ((e6.mono (incl_cons mp2 tl4)).now (fun _ h => h) hS) q53x q53l q53r ?_; intro b54 hb54
    refine ⟨_, rd_get ((e6.mono (incl_cons mp2 tl4)).now (fun _ h => h) hS) hb54 q53x, ?_⟩
    obtain ⟨t58, ht58, h⟩ := bnd h
    refine wk_math_Abs H hS  ht58 ?_; rintro z55 w rfl hS
    refine ⟨_, rfl, ?_⟩
    obtain ⟨⟨t59, t60, t61, t62⟩, ho59, h⟩ := bnd h
    refine wk_dyad_Of H hS (hG.mono tl4) ho59 ?_; clear hS ho59; rintro a56 m56 c56 w hS
    refine ⟨_, _, _, _, _, _, rfl, ?_⟩
    replace hS := ro1 hS
    refine stc_s hS rfl rfl ?_; intro w hS
    refine stc_s hS rfl rfl ?_; intro w hS
    refine stc_s hS rfl rfl ?_; intro w hS
    obtain ⟨o60, h60, c60⟩ := bnd h
    refine cutM_i (fun s w => ∃ (t63 : Int) (t64 : Bool) (t65 : Int) (a57 : Option Addr) (m58 : Nat) (c59 : Nat) (t66 : List Int), (t63, t64, t65, t66) = o60 ∧ s = (t63, ()) ∧ Ho w0 w ((cl r12 [.bool t64, .slice a57 m58 c59, .int .i64 t65] N.t_Dyad) :: it5 :: (sl a57 m58 c59 (List.map (Value.int .u64) t66) N.t_uint64) :: L)) (fun J60 hJ60 => ?_) ?_
    ·
     have h := h60
     clear h60
     refine cond_s h ?_ ?_ <;> intro hc h
     ·
      refine ⟨_, (hS.cel mp2 rfl), ?_⟩
      refine ⟨_, _, _, (hS.cel mp2 rfl), ?_⟩
      refine ⟨_, (hS.cel mp2 rfl), ?_⟩
      refine ⟨_, (hS.cel mp0 rfl), ?_⟩
      refine ⟨_, _, _, (hS.cel mp0 rfl), ?_⟩
      refine ⟨_, (hS.cel mp0 rfl), ?_⟩
      obtain ⟨⟨t67, t68, t69, t70⟩, ho67, h⟩ := bnd h
      refine wk_dyad_Add H hS (Ent.sl mp4) (Ent.sl mp1) ho67 ?_; clear hS ho67; rintro a61 m61 c61 w hS
      refine ⟨_, _, _, _, _, _, rfl, ?_⟩
      replace hS := ro3 hS
      refine stc_s hS rfl rfl ?_; intro w hS
      refine stc_s hS rfl rfl ?_; intro w hS
      refine stc_s hS rfl rfl ?_; intro w hS
      obtain rfl := some_inj h
      exact hJ60 _ _ ⟨_, _, _, _, _, _, _, rfl, rfl, (hS.pick (A := [_, _, _, _, _, _]) [0, 3, 0] rfl)⟩
     obtain rfl := some_inj h
     exact hJ60 _ _ ⟨_, _, _, _, _, _, _, rfl, rfl, (hS.pick (A := [_, _, _, _, _]) [2, 2, 2] rfl)⟩
    clear h60 hS
    rintro s w ⟨t63, t64, t65, a57, m58, c59, t66, rfl, rfl, hS⟩
    have h := c60
    clear c60
    try dsimp only
    obtain rfl := some_inj h
    exact hJ50 _ _ ⟨_, _, _, _, _, _, _, rfl, rfl, hS⟩
   clear h50 hS
   rintro s w ⟨t53, t54, t55, a47, m48, c49, t56, rfl, rfl, hS⟩
   have h := c50
   clear c50
   try dsimp only
   obtain rfl := some_inj h
   exact hX _ rfl _ _ ⟨_, _, _, _, _, _, _, _, rfl, rfl, hS⟩
  obtain rfl := some_inj h
  have h := congrArg some (hO _ rfl)
  obtain rfl := some_inj h
  exact hJ42 _ _ ⟨_, _, _, _, _, _, _, rfl, rfl, (hS.pick (A := [_, _, _]) [0, 1] rfl)⟩
 clear h42 hS
 rintro s w ⟨t42, t43, t44, a39, m40, c41, t45, rfl, rfl, hS⟩
 have h := c42
 clear c42
 try dsimp only
 refine cond_s h ?_ ?_ <;> intro hc h
 ·
  cases some_inj h
  exact hK _ (hS.pick (A := [_, _]) [] rfl)
 obtain ⟨t71, ht71, h⟩ := bnd h
 refine wk_k_Finite H hS  ht71 ?_; rintro w hS
 refine ⟨_, rfl, ?_⟩
 refine cond_s h ?_ ?_ <;> intro hc h
 ·
  cases some_inj h
  exact hK _ (hS.pick (A := [_, _]) [] rfl)
 obtain ⟨⟨t72, t73, t74, t75⟩, ho72, h⟩ := bnd h
 refine wk_dyad_Of H hS (hG.mono tl2) ho72 ?_; clear hS ho72; rintro a62 m62 c62 w hS
 refine ⟨_, _, _, _, _, _, rfl, ?_⟩
 refine newM_s hS ?_; intro r63 w hS
 refine stc_s hS rfl rfl ?_; intro w hS
 refine stc_s hS rfl rfl ?_; intro w hS
 refine stc_s hS rfl rfl ?_; intro w hS
 refine ⟨_, (hS.cel mp2 rfl), ?_⟩
 refine ⟨_, _, _, (hS.cel mp2 rfl), ?_⟩
 refine ⟨_, (hS.cel mp2 rfl), ?_⟩
 obtain ⟨⟨t76, t77, t78, t79⟩, ho76, h⟩ := bnd h
 refine wk_dyad_Scale H hS (Ent.sl mp3) ho76 ?_; clear hS ho76; rintro a64 m64 c64 w hS
 refine ⟨_, _, _, _, _, _, rfl, ?_⟩
 refine newM_s hS ?_; intro r65 w hS
 refine stc_s hS rfl rfl ?_; intro w hS
 refine stc_s hS rfl rfl ?_; intro w hS
 refine stc_s hS rfl rfl ?_; intro w hS
 obtain ⟨o66, h66, c66⟩ := bnd h
 refine cutM_i (fun s w => ∃ (t80 : Bool), t80 = o66 ∧ s = (t80, ()) ∧ Ho w0 w ((cl r65 [.bool t76, .slice a64 m64 c64, .int .i64 t78] N.t_Dyad) :: (sl a64 m64 c64 (List.map (Value.int .u64) t77) N.t_uint64) :: (cl r63 [.bool t72, .slice a62 m62 c62, .int .i64 t74] N.t_Dyad) :: (sl a62 m62 c62 (List.map (Value.int .u64) t73) N.t_uint64) :: (cl r12 [.bool t43, .slice a39 m40 c41, .int .i64 t44] N.t_Dyad) :: (sl a39 m40 c41 (List.map (Value.int .u64) t45) N.t_uint64) :: L)) (fun J66 hJ66 => ?_) ?_
 ·
  have h := h66
  clear h66
  refine cond_s h ?_ ?_ <;> intro hc h
  ·
   obtain rfl := some_inj h
   exact hJ66 _ _ ⟨_, rfl, rfl, hS⟩
  obtain rfl := some_inj h
  exact hJ66 _ _ ⟨_, rfl, rfl, hS⟩
 clear h66 hS
 rintro s w ⟨t80, rfl, rfl, hS⟩
 have h := c66
 clear c66
 try dsimp only
 refine cond_s h ?_ ?_ <;> intro hc h
 ·
  cases some_inj h
  exact hK _ (hS.pick (A := [_, _, _, _, _, _]) [] rfl)
 refine ⟨_, (hS.cel mp4 rfl), ?_⟩
 refine ⟨_, _, _, (hS.cel mp4 rfl), ?_⟩
 refine ⟨_, (hS.cel mp4 rfl), ?_⟩
 refine ⟨_, (hS.cel mp0 rfl), ?_⟩
 refine ⟨_, _, _, (hS.cel mp0 rfl), ?_⟩
 refine ⟨_, (hS.cel mp0 rfl), ?_⟩
 obtain ⟨⟨t81, t82, t83, t84⟩, ho81, h⟩ := bnd h
 refine wk_dyad_Add H hS (Ent.sl mp5) (Ent.sl mp1) ho81 ?_; clear hS ho81; rintro a67 m67 c67 w hS
 refine ⟨_, _, _, _, _, _, rfl, ?_⟩
 replace hS := ro1 hS
 refine stc_s hS rfl rfl ?_; intro w hS
 refine stc_s hS rfl rfl ?_; intro w hS
 refine stc_s hS rfl rfl ?_; intro w hS
 refine ⟨_, (hS.cel mp5 rfl), ?_⟩
 refine ⟨_, _, _, (hS.cel mp5 rfl), ?_⟩
 refine ⟨_, (hS.cel mp5 rfl), ?_⟩
 refine ⟨_, (hS.cel mp3 rfl), ?_⟩
 refine ⟨_, _, _, (hS.cel mp3 rfl), ?_⟩
 refine ⟨_, (hS.cel mp3 rfl), ?_⟩
 obtain ⟨⟨t85, t86⟩, ho85, h⟩ := bnd h
 refine wk_dyad_Cmp H hS (Ent.sl mp6) (Ent.sl mp4) ho85 ?_; clear hS ho85; rintro w hS
 refine ⟨_, _, rfl, ?_⟩
 refine ⟨_, (hS.cel mp3 rfl), ?_⟩
 refine ⟨_, _, _, (hS.cel mp3 rfl), ?_⟩
 refine ⟨_, (hS.cel mp3 rfl), ?_⟩
 refine ⟨_, (hS.cel mp0 rfl), ?_⟩
 refine ⟨_, _, _, (hS.cel mp0 rfl), ?_⟩
 refine ⟨_, (hS.cel mp0 rfl), ?_⟩
 obtain ⟨⟨t87, t88⟩, ho87, h⟩ := bnd h
 refine wk_dyad_Cmp H hS (Ent.sl mp4) (Ent.sl mp1) ho87 ?_; clear hS ho87; rintro w hS
 refine ⟨_, _, rfl, ?_⟩
 refine cond_s h ?_ ?_ <;> intro hc h
 ·
  refine cond_s h ?_ ?_ <;> intro hc h
  ·
   refine cond_s h ?_ ?_ <;> intro hc h
   ·
    refine cond_s h ?_ ?_ <;> intro hc h
    ·
     cases some_inj h
     exact hK _ (hS.pick (A := [_, _, _, _, _, _, _]) [] rfl)
    cases some_inj h
    exact hK _ (hS.pick (A := [_, _, _, _, _, _, _]) [] rfl)
   cases some_inj h
   exact hK _ (hS.pick (A := [_, _, _, _, _, _, _]) [] rfl)
  cases some_inj h
  exact hK _ (hS.pick (A := [_, _, _, _, _, _, _]) [] rfl)
 cases some_inj h
 exact hK _ (hS.pick (A := [_, _, _, _, _, _, _]) [] rfl)
end Go.Eng
