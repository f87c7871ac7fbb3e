/-
 Each function comes to what its function of plain Lean says, printed by a program of the session; with contracts written by hand at the head. No condition.
-/
import Derived.Test.YtdephdnkkljfeaaTp
import Derived.Test.YtdephdnkkljfeaaSh
import Derived.Test.YtdephdnkkljfeaaTw4
set_option linter.all false
set_option maxRecDepth 100000
set_option maxHeartbeats 4000000
namespace Go.Eng
open Go
section
variable {N : Nums} {P : Program} (H : AllOk N P)
include H
theorem bits_c (x : Nat) (w : World) : CallsX P N.f_math_Float64bits #[.float .f64 x] w fun v w' => v = .int .u64 x ∧ St w w' [] :=
 H.math_Float64bits x w _ ⟨rfl, St.refl _⟩
theorem isNaN_c (x : Nat) (w : World) : CallsX P N.f_math_IsNaN #[.float .f64 x] w fun v w' => v = .bool (isNaN x) ∧ St w w' [] := by
 refine H.math_IsNaN x w _ ?_
 refine ⟨?_, St.refl w⟩
 rw [feq_self]; simp
theorem vsame_c {w : World} {a b : Option Addr} {n c m d : Nat} {l k : List Nat} (ha : Reals w a n c l) (hb : Reals w b m d k) (hn : n ≤ 4294967296) :
  CallsX P N.f_vector_Same #[.slice a n c, .slice b m d] w fun v w' => v = .bool (l.map nf == k.map nf) ∧ St w w' [] := by
 refine H.vector_Same a n c b m d w _ ?_
 unfold S_vector_Same
 have la := ha.len
 have lb := hb.len
 refine cond_i (fun h => ?_) (fun h => ?_)
 ·
  refine ⟨?_, St.refl _⟩
  congr 1
  have h' : n ≠ m := by simp at h; omega
  simp only [Bool.false_eq, beq_eq_false_iff_ne, ne_eq]
  intro e
  have := congrArg List.length e
  simp at this; omega
 ·
  have hnm : n = m := by simp at h; omega
  subst hnm
  refine cutM_i (fun s w' => l.map nf = k.map nf ∧ St w w' []) (fun J hJ => ?_) (fun s w' ⟨h, hS⟩ => ⟨by simp [h], hS⟩)
  refine loopM_i (fun s w' => ∃ i : Nat, s.1 = (i : Int) ∧ i ≤ n ∧ (∀ j, j < i → nf (l.getD j 0) = nf (k.getD j 0)) ∧ St w w' []) (fun s => n - s.1.toNat) ⟨0, rfl, by omega, fun j h => by omega, St.refl w⟩ ?_
  rintro ⟨s, u⟩ w X ⟨i, hi, hin, hall, hS⟩ hX
  dsimp only at hi; subst hi
  refine cond_i (fun hb1 => ?_) (fun hb1 => ?_)
  ·
   have hlt : i < n := by simpa using hb1
   have hadv : nf (l.getD i 0) = nf (k.getD i 0) → ∀ w', St _ w' [] → X (IntKind.i64.wrap ((i : Int) + 1), u) w' := fun he w' hS' => by
    refine hX _ _ ⟨i + 1, wrS hlt (by omega), by omega, fun j hj => ?_, hS'⟩ (by dsimp only; rw [wrS hlt (by omega)]; omega)
    by_cases e : j = i
    ·
     subst e; exact he
    ·
     exact hall j (by omega)
   have hbad : nf (l.getD i 0) ≠ nf (k.getD i 0) → (Value.bool false) = Value.bool (l.map nf == k.map nf) := fun he => by
    congr 1
    simp only [Bool.false_eq, beq_eq_false_iff_ne, ne_eq]
    intro e
    apply he
    have := congrArg (fun q => q.getD i 0) e
    simpa [List.getD_eq_getElem?_getD, show i < l.length by omega, show i < k.length by omega] using this
   obtain ⟨xa, rfl, hxa⟩ := ha.at_ i (by omega)
   obtain ⟨xb, rfl, hxb⟩ := hb.at_ i (by omega)
   dsimp only
   rw [Int.toNat_natCast, Nat.mul_one]
   refine ⟨by omega, by omega, optM_mk rfl ⟨_, hS.cell hxa, by omega, by omega, optM_mk rfl ⟨_, hS.cell hxb, ?_⟩⟩⟩
   (try simp only [List.cons_append, List.nil_append, List.append_assoc] at hS); (repeat (first | (with_reducible (refine ⟨_, hS.cell ‹_›, ?_⟩)) | (with_reducible (refine ⟨_, _, _, hS.cell ‹_›, ?_⟩)) | (with_reducible (refine ⟨hS.cell ‹_›, ?_⟩)) | ((with_reducible first | apply ldI hS | apply ldS hS | apply hldS hS | apply hldI hS | apply ldF hS | apply ldP hS | apply ldB hS | apply hldF hS); (case ha => exact rfl); (case he => (repeat (first | with_reducible exact List.mem_cons_self | with_reducible refine List.mem_cons_of_mem _ ?_))); (case hc => exact rfl)) | (guard_target = newM _ _ _ _; refine newM_i hS ?_; clear hS; intro _ w hS) | (guard_target = drM _ _; refine drM_i hS ?_; clear hS; intro w hS) | (guard_target = stM _ _ _ _; (first | refine st0 hS rfl rfl ?_ | refine st1 hS rfl rfl ?_ | refine st2 hS rfl rfl ?_ | refine st3 hS rfl rfl ?_ | refine st4 hS rfl rfl ?_ | refine st5 hS rfl rfl ?_ | refine st6 hS rfl rfl ?_ | refine st7 hS rfl rfl ?_); clear hS; intro w hS) | (guard_target = optM (some _) _; refine optM_mk rfl ?_)))
   refine (bits_c H _ _).mono ?_
   rintro _ w1 ⟨rfl, h1⟩
   replace hS := hS.next h1
   rw [List.nil_append] at hS
   refine ⟨_, rfl, hS.cell hxb, ?_⟩
   (try simp only [List.cons_append, List.nil_append, List.append_assoc] at hS); (repeat (first | (with_reducible (refine ⟨_, hS.cell ‹_›, ?_⟩)) | (with_reducible (refine ⟨_, _, _, hS.cell ‹_›, ?_⟩)) | (with_reducible (refine ⟨hS.cell ‹_›, ?_⟩)) | ((with_reducible first | apply ldI hS | apply ldS hS | apply hldS hS | apply hldI hS | apply ldF hS | apply ldP hS | apply ldB hS | apply hldF hS); (case ha => exact rfl); (case he => (repeat (first | with_reducible exact List.mem_cons_self | with_reducible refine List.mem_cons_of_mem _ ?_))); (case hc => exact rfl)) | (guard_target = newM _ _ _ _; refine newM_i hS ?_; clear hS; intro _ w hS) | (guard_target = drM _ _; refine drM_i hS ?_; clear hS; intro w hS) | (guard_target = stM _ _ _ _; (first | refine st0 hS rfl rfl ?_ | refine st1 hS rfl rfl ?_ | refine st2 hS rfl rfl ?_ | refine st3 hS rfl rfl ?_ | refine st4 hS rfl rfl ?_ | refine st5 hS rfl rfl ?_ | refine st6 hS rfl rfl ?_ | refine st7 hS rfl rfl ?_); clear hS; intro w hS) | (guard_target = optM (some _) _; refine optM_mk rfl ?_)))
   refine (bits_c H _ _).mono ?_
   rintro _ w2 ⟨rfl, h2⟩
   replace hS := hS.next h2
   rw [List.nil_append] at hS
   refine ⟨_, rfl, cond_i (fun hb2 => ?_) (fun hb2 => ?_)⟩
   ·
    have hne : l.getD i 0 ≠ k.getD i 0 := fun e => by rw [e] at hb2; simp at hb2
    (try simp only [List.cons_append, List.nil_append, List.append_assoc] at hS); (repeat (first | (with_reducible (refine ⟨_, hS.cell ‹_›, ?_⟩)) | (with_reducible (refine ⟨_, _, _, hS.cell ‹_›, ?_⟩)) | (with_reducible (refine ⟨hS.cell ‹_›, ?_⟩)) | ((with_reducible first | apply ldI hS | apply ldS hS | apply hldS hS | apply hldI hS | apply ldF hS | apply ldP hS | apply ldB hS | apply hldF hS); (case ha => exact rfl); (case he => (repeat (first | with_reducible exact List.mem_cons_self | with_reducible refine List.mem_cons_of_mem _ ?_))); (case hc => exact rfl)) | (guard_target = newM _ _ _ _; refine newM_i hS ?_; clear hS; intro _ w hS) | (guard_target = drM _ _; refine drM_i hS ?_; clear hS; intro w hS) | (guard_target = stM _ _ _ _; (first | refine st0 hS rfl rfl ?_ | refine st1 hS rfl rfl ?_ | refine st2 hS rfl rfl ?_ | refine st3 hS rfl rfl ?_ | refine st4 hS rfl rfl ?_ | refine st5 hS rfl rfl ?_ | refine st6 hS rfl rfl ?_ | refine st7 hS rfl rfl ?_); clear hS; intro w hS) | (guard_target = optM (some _) _; refine optM_mk rfl ?_)))
    refine (isNaN_c H _ _).mono ?_
    rintro _ w3 ⟨rfl, h3⟩
    replace hS := hS.next h3
    rw [List.nil_append] at hS
    refine ⟨_, rfl, cond_i (fun hn1 => ?_) (fun hn1 => ?_)⟩
    ·
     refine ⟨by omega, by omega, optM_mk rfl ⟨_, hS.cell hxb, ?_⟩⟩
     (try simp only [List.cons_append, List.nil_append, List.append_assoc] at hS); (repeat (first | (with_reducible (refine ⟨_, hS.cell ‹_›, ?_⟩)) | (with_reducible (refine ⟨_, _, _, hS.cell ‹_›, ?_⟩)) | (with_reducible (refine ⟨hS.cell ‹_›, ?_⟩)) | ((with_reducible first | apply ldI hS | apply ldS hS | apply hldS hS | apply hldI hS | apply ldF hS | apply ldP hS | apply ldB hS | apply hldF hS); (case ha => exact rfl); (case he => (repeat (first | with_reducible exact List.mem_cons_self | with_reducible refine List.mem_cons_of_mem _ ?_))); (case hc => exact rfl)) | (guard_target = newM _ _ _ _; refine newM_i hS ?_; clear hS; intro _ w hS) | (guard_target = drM _ _; refine drM_i hS ?_; clear hS; intro w hS) | (guard_target = stM _ _ _ _; (first | refine st0 hS rfl rfl ?_ | refine st1 hS rfl rfl ?_ | refine st2 hS rfl rfl ?_ | refine st3 hS rfl rfl ?_ | refine st4 hS rfl rfl ?_ | refine st5 hS rfl rfl ?_ | refine st6 hS rfl rfl ?_ | refine st7 hS rfl rfl ?_); clear hS; intro w hS) | (guard_target = optM (some _) _; refine optM_mk rfl ?_)))
     refine (isNaN_c H _ _).mono ?_
     rintro _ w4 ⟨rfl, h4⟩
     replace hS := hS.next h4
     rw [List.nil_append] at hS
     refine ⟨_, rfl, ?_⟩
     (try simp only [List.cons_append, List.nil_append, List.append_assoc] at hS); (repeat (first | (with_reducible (refine ⟨_, hS.cell ‹_›, ?_⟩)) | (with_reducible (refine ⟨_, _, _, hS.cell ‹_›, ?_⟩)) | (with_reducible (refine ⟨hS.cell ‹_›, ?_⟩)) | ((with_reducible first | apply ldI hS | apply ldS hS | apply hldS hS | apply hldI hS | apply ldF hS | apply ldP hS | apply ldB hS | apply hldF hS); (case ha => exact rfl); (case he => (repeat (first | with_reducible exact List.mem_cons_self | with_reducible refine List.mem_cons_of_mem _ ?_))); (case hc => exact rfl)) | (guard_target = newM _ _ _ _; refine newM_i hS ?_; clear hS; intro _ w hS) | (guard_target = drM _ _; refine drM_i hS ?_; clear hS; intro w hS) | (guard_target = stM _ _ _ _; (first | refine st0 hS rfl rfl ?_ | refine st1 hS rfl rfl ?_ | refine st2 hS rfl rfl ?_ | refine st3 hS rfl rfl ?_ | refine st4 hS rfl rfl ?_ | refine st5 hS rfl rfl ?_ | refine st6 hS rfl rfl ?_ | refine st7 hS rfl rfl ?_); clear hS; intro w hS) | (guard_target = optM (some _) _; refine optM_mk rfl ?_)))
     refine cond_i (fun hn2 => ?_) (fun hn2 => ?_)
     ·
      simp only [Bool.not_eq_true'] at hn2
      exact ⟨hbad (fun e => by rcases nf_eq_iff.1 e with e | ⟨_, e⟩; exact hne e; rw [e] at hn2; cases hn2), hS⟩
     ·
      simp only [Bool.not_eq_false'] at hn2
      exact hadv (nf_eq_iff.2 (.inr ⟨hn1, hn2⟩)) _ hS
    ·
     (try simp only [List.cons_append, List.nil_append, List.append_assoc] at hS); (repeat (first | (with_reducible (refine ⟨_, hS.cell ‹_›, ?_⟩)) | (with_reducible (refine ⟨_, _, _, hS.cell ‹_›, ?_⟩)) | (with_reducible (refine ⟨hS.cell ‹_›, ?_⟩)) | ((with_reducible first | apply ldI hS | apply ldS hS | apply hldS hS | apply hldI hS | apply ldF hS | apply ldP hS | apply ldB hS | apply hldF hS); (case ha => exact rfl); (case he => (repeat (first | with_reducible exact List.mem_cons_self | with_reducible refine List.mem_cons_of_mem _ ?_))); (case hc => exact rfl)) | (guard_target = newM _ _ _ _; refine newM_i hS ?_; clear hS; intro _ w hS) | (guard_target = drM _ _; refine drM_i hS ?_; clear hS; intro w hS) | (guard_target = stM _ _ _ _; (first | refine st0 hS rfl rfl ?_ | refine st1 hS rfl rfl ?_ | refine st2 hS rfl rfl ?_ | refine st3 hS rfl rfl ?_ | refine st4 hS rfl rfl ?_ | refine st5 hS rfl rfl ?_ | refine st6 hS rfl rfl ?_ | refine st7 hS rfl rfl ?_); clear hS; intro w hS) | (guard_target = optM (some _) _; refine optM_mk rfl ?_)))
     exact ⟨hbad (fun e => by rcases nf_eq_iff.1 e with e | ⟨e, _⟩; exact hne e; rw [e] at hn1; cases hn1), hS⟩
   ·
    have he : l.getD i 0 = k.getD i 0 := by
     have h5 : (((l.getD i 0 : Nat) : Int) != ((k.getD i 0 : Nat) : Int)) = false := hb2
     have h6 : ((l.getD i 0 : Nat) : Int) = ((k.getD i 0 : Nat) : Int) := by
      rcases Decidable.em (((l.getD i 0 : Nat) : Int) = ((k.getD i 0 : Nat) : Int)) with h | h
      ·
       exact h
      ·
       rw [bne_iff_ne.2 h] at h5; cases h5
     exact Int.ofNat.inj h6
    (try simp only [List.cons_append, List.nil_append, List.append_assoc] at hS); (repeat (first | (with_reducible (refine ⟨_, hS.cell ‹_›, ?_⟩)) | (with_reducible (refine ⟨_, _, _, hS.cell ‹_›, ?_⟩)) | (with_reducible (refine ⟨hS.cell ‹_›, ?_⟩)) | ((with_reducible first | apply ldI hS | apply ldS hS | apply hldS hS | apply hldI hS | apply ldF hS | apply ldP hS | apply ldB hS | apply hldF hS); (case ha => exact rfl); (case he => (repeat (first | with_reducible exact List.mem_cons_self | with_reducible refine List.mem_cons_of_mem _ ?_))); (case hc => exact rfl)) | (guard_target = newM _ _ _ _; refine newM_i hS ?_; clear hS; intro _ w hS) | (guard_target = drM _ _; refine drM_i hS ?_; clear hS; intro w hS) | (guard_target = stM _ _ _ _; (first | refine st0 hS rfl rfl ?_ | refine st1 hS rfl rfl ?_ | refine st2 hS rfl rfl ?_ | refine st3 hS rfl rfl ?_ | refine st4 hS rfl rfl ?_ | refine st5 hS rfl rfl ?_ | refine st6 hS rfl rfl ?_ | refine st7 hS rfl rfl ?_); clear hS; intro w hS) | (guard_target = optM (some _) _; refine optM_mk rfl ?_)))
    exact hadv (by rw [he]) _ hS
  ·
   have hge : n ≤ i := by simpa using hb1
   refine hJ _ _ ⟨?_, hS⟩
   apply List.ext_getElem
   ·
    simp; omega
   ·
    intro j h1 h2
    simp at h1 h2
    have := hall j (by omega)
    simpa [List.getD_eq_getElem?_getD, h1, h2] using this
theorem abs_c (x : Nat) (w : World) : CallsX P N.f_math_Abs #[.float .f64 x] w fun v w' => v = .float .f64 (magF x) ∧ St w w' [] := by
 refine H.math_Abs x w _ ?_
 unfold S_math_Abs
 refine (bits_c H x w).mono ?_
 rintro _ w1 ⟨rfl, h1⟩
 refine ⟨_, rfl, ?_⟩
 refine H.math_Float64frombits _ w1 _ ?_
 rw [abs_bits]
 exact ⟨_, rfl, rfl, h1⟩
theorem copysign_c (x y : Nat) (w : World) : CallsX P N.f_math_Copysign #[.float .f64 x, .float .f64 y] w fun v w' => v = .float .f64 ((if negF y then 9223372036854775808 else 0) + magF x) ∧ St w w' [] := by
 refine H.math_Copysign x y w _ ?_
 unfold S_math_Copysign
 refine (bits_c H x w).mono ?_
 rintro _ w1 ⟨rfl, h1⟩
 refine ⟨_, rfl, ?_⟩
 refine (bits_c H y w1).mono ?_
 rintro _ w2 ⟨rfl, h2⟩
 refine ⟨_, rfl, ?_⟩
 refine H.math_Float64frombits _ w2 _ ?_
 rw [copy_bits]
 exact ⟨_, rfl, rfl, h1.next h2⟩
theorem sameFloat_c (x y : Nat) (w : World) : CallsX P N.f_k_SameFloat #[.float .f64 x, .float .f64 y] w fun v w' => v = .bool (nf x == nf y) ∧ St w w' [] := by
 refine H.k_SameFloat x y w _ ?_
 unfold S_k_SameFloat
 refine (bits_c H x w).mono ?_
 rintro _ w1 ⟨rfl, h1⟩
 refine ⟨_, rfl, ?_⟩
 refine (bits_c H y w1).mono ?_
 rintro _ w2 ⟨rfl, h2⟩
 refine ⟨_, rfl, ?_⟩
 have hS := h1.next h2
 have hxy : (((x : Nat) : Int) == ((y : Nat) : Int)) = (x == y) := by rw [Bool.eq_iff_iff]; simp; omega
 rw [same_bits, hxy, feq_self, feq_self]
 cases x == y <;> cases isNaN x <;> exact ⟨by simp, hS⟩
end
variable {N : Nums} {P : Program} (H : AllOk N P) {w0 w : World} {L : List It} {K : Value → World → Prop}
include H
theorem wk_matrix_fits {q0 : Int} {u0 : Bool} (hS : Ho w0 w (L))  (hx : T_matrix_fits q0 = some u0) (hK : ∀  (w1 : World), Ho w0 w1 (L) → K (.bool u0) w1) : CallsX P N.f_matrix_fits #[.int .i64 q0] w K := by
 refine H.matrix_fits q0 w _ ?_
 unfold S_matrix_fits
 unfold T_matrix_fits at hx
 have h := hx
 clear hx
 try dsimp only
 refine cond_s h ?_ ?_ <;> clear h <;> intro hc h
 ·
  have h := some_inj h
  cases h
  exact hK _ hS
 ·
  have h := some_inj h
  cases h
  exact hK _ hS
theorem wk_matrix_Right {q0_0 : Int} {q0_1 : Int} {q0_2 : Option Addr} {q0_2l q0_2c : Nat} {ws0_2 : List Nat} {u0 : Bool} (hS : Ho w0 w (L)) (hq0_2 : Ent L (rdA (List.map (Value.float .f64) ws0_2) q0_2 q0_2l q0_2c)) (hx : T_matrix_Right q0_0 q0_1 (List.map nf ws0_2) = some u0) (hK : ∀  (w1 : World), Ho w0 w1 (L) → K (.bool u0) w1) : CallsX P N.f_matrix_Right #[.agg #[.int .i64 q0_0, .int .i64 q0_1, .slice q0_2 q0_2l q0_2c]] w K := by
 refine H.matrix_Right q0_0 q0_1 q0_2 q0_2l q0_2c w _ ?_
 unfold S_matrix_Right
 unfold T_matrix_Right at hx
 have h := hx
 clear hx
 try dsimp only
 refine newM_s hS ?_; clear hS; intro r1 w hS
 refine ⟨_, (hS.cel mp0 rfl), ?_⟩
 replace h := bnd h
 obtain ⟨t1, ht1, h⟩ := h
 refine wk_matrix_fits H hS  ht1 ?_; clear hS ht1; rintro w hS
 refine ⟨_, rfl, ?_⟩
 refine cond_s h ?_ ?_ <;> clear h <;> intro hc h
 ·
  refine ⟨_, (hS.cel mp0 rfl), ?_⟩
  replace h := bnd h
  obtain ⟨t2, ht2, h⟩ := h
  refine wk_matrix_fits H hS  ht2 ?_; clear hS ht2; rintro w hS
  refine ⟨_, rfl, ?_⟩
  refine cond_s h ?_ ?_ <;> clear h <;> intro hc h
  ·
   refine ⟨_, _, _, (hS.cel mp0 rfl), ?_⟩
   replace h := bnd h
   obtain ⟨t3, ht3, h⟩ := h
   obtain rfl := lenF ht3 ((hq0_2.mono tl1).now (fun _ h => h) hS)
   clear ht3
   refine ⟨_, (hS.cel mp0 rfl), ?_⟩
   refine ⟨_, (hS.cel mp0 rfl), ?_⟩
   have h := some_inj h
   cases h
   exact hK _ (hS.pick (A := [_]) [] rfl)
  ·
   have h := some_inj h
   cases h
   exact hK _ (hS.pick (A := [_]) [] rfl)
 ·
  have h := some_inj h
  cases h
  exact hK _ (hS.pick (A := [_]) [] rfl)
theorem wk_matrix_Transpose_1 {q0 : Int} {q1 : Int} {r_2 : Nat} {q2_0 : Int} {q2_1 : Int} {q2_2 : Option Addr} {q2_2l q2_2c : Nat} {ws2_2 : List Nat} {u0 : Nat} (hS : Ho w0 w (L)) (eq2 : Ent L (cl r_2 [.int .i64 q2_0, .int .i64 q2_1, .slice q2_2 q2_2l q2_2c] N.t_Matrix).A) (hq2_2 : Ent L (rdA (List.map (Value.float .f64) ws2_2) q2_2 q2_2l q2_2c)) (hx : T_matrix_Transpose_1 q0 q1 q2_0 q2_1 (List.map nf ws2_2) = some u0) (hK : ∀ (z0 : Nat) (w1 : World), nf z0 = u0 → Ho w0 w1 (L) → K (.float .f64 z0) w1) : CallsX P N.f_matrix_Transpose_1 #[.int .i64 q0, .int .i64 q1, .pointer (some ⟨r_2, 0, none⟩)] w K := by
 refine H.matrix_Transpose_1 q0 q1 (some ⟨r_2, 0, none⟩) w _ ?_
 unfold S_matrix_Transpose_1
 unfold T_matrix_Transpose_1 at hx
 have h := hx
 clear hx
 try dsimp only
 refine optM_s ?_
 refine ⟨_, _, _, (eq2.cel (fun _ h => h) hS rfl), ?_⟩
 refine optM_s ?_
 refine ⟨_, (eq2.cel (fun _ h => h) hS rfl), ?_⟩
 replace h := bnd h
 obtain ⟨t1, ht1, h⟩ := h
 obtain ⟨z1, rfl, q2x, q2l, q2r⟩ := atF ht1
 clear ht1
 refine idx_s (hq2_2.now (fun _ h => h) hS) q2x q2l q2r ?_; intro b3 hb3
 refine ⟨_, rd_get (hq2_2.now (fun _ h => h) hS) hb3 q2x, ?_⟩
 have h := some_inj h
 cases h
 exact hK _ _ rfl hS
theorem wk_matrix_laid {q0 : Int} {q1 : Int} {q2 : Value} {f2 : Int → Int → Option Nat} {u0 : Int} {u1 : Int} {u2 : List Nat} (hS : Ho w0 w (L)) (hf2 : ∀ (v0 : Int) (v1 : Int) (w : World) (L1 : List It) (r1 : Nat) (K : Value → World → Prop), (∀ e, e ∈ L → e ∈ L1) → f2 v0 v1 = some r1 → Ho w0 w L1 → (∀ (z : Nat) (w1 : World), nf z = r1 → Ho w0 w1 L1 → K (.float .f64 z) w1) → fnM q2 fun g gp gq => CallsX P g (gp.toList ++ (([.int .i64 v0, .int .i64 v1] : List Value) ++ gq.toList)).toArray w K) (hx : T_matrix_laid q0 q1 f2 = some (u0, u1, u2)) (hK : ∀ (a2 : Option Addr) (n2 c2 : Nat) (rws2 : List Nat) (w1 : World), List.map nf rws2 = u2 → Ho w0 w1 ((sl a2 n2 c2 (List.map (Value.float .f64) rws2) N.t_float64) :: L) → K (.agg #[.int .i64 u0, .int .i64 u1, .slice a2 n2 c2]) w1) : CallsX P N.f_matrix_laid #[.int .i64 q0, .int .i64 q1, q2] w K := by
 refine H.matrix_laid q0 q1 q2 w _ ?_
 unfold S_matrix_laid
 unfold T_matrix_laid at hx
 have h := hx
 clear hx
 try dsimp only
 refine newM_s hS ?_; clear hS; intro r1 w hS
 replace h := bnd h
 obtain ⟨t1, ht1, h⟩ := h
 obtain ⟨rfl, kt1⟩ := mkF ht1
 clear ht1
 refine mk_s (enc := (Value.float .f64)) hS kt1 rfl ?_; clear hS kt1; intro r2 w hS
 refine newM_s hS ?_; clear hS; intro r3 w hS
 refine stc_s hS rfl rfl ?_; clear hS; intro w hS
 refine stc_s hS rfl rfl ?_; clear hS; intro w hS
 refine stc_s hS rfl rfl ?_; clear hS; intro w hS
 replace h := bnd h
 obtain ⟨o5, h5, c5⟩ := h
 refine cutM_i (fun s w => ∃ (ws4 : List Nat), (List.map nf ws4) = o5 ∧ s = (()) ∧ Ho w0 w ((cl r3 [.int .i64 q0, .int .i64 q1, .slice (some ⟨r2, 0, none⟩) (((IntKind.i64.wrap (q0 * q1))).toNat) (((IntKind.i64.wrap (q0 * q1))).toNat)] N.t_Matrix) :: (sl (some ⟨r2, 0, none⟩) (((IntKind.i64.wrap (q0 * q1))).toNat) (((IntKind.i64.wrap (q0 * q1))).toNat) (List.map (Value.float .f64) ws4) N.t_float64) :: (cl r1 [.int .i64 0, .int .i64 0, .slice none 0 0] N.t_Matrix) :: L)) (fun J5 hJ5 => ?_) ?_
 ·
  have h := h5
  clear h5
  refine iter_sim (fun s w t => ∃ (t3 : Int) (ws6 : List Nat), (t3, (List.map nf ws6)) = t ∧ s = (t3, ()) ∧ Ho w0 w ((cl r3 [.int .i64 q0, .int .i64 q1, .slice (some ⟨r2, 0, none⟩) (((IntKind.i64.wrap (q0 * q1))).toNat) (((IntKind.i64.wrap (q0 * q1))).toNat)] N.t_Matrix) :: (sl (some ⟨r2, 0, none⟩) (((IntKind.i64.wrap (q0 * q1))).toNat) (((IntKind.i64.wrap (q0 * q1))).toNat) (List.map (Value.float .f64) ws6) N.t_float64) :: (cl r1 [.int .i64 0, .int .i64 0, .slice none 0 0] N.t_Matrix) :: L)) ?_ h ⟨_, _, rfl, rfl, hS⟩
  clear h hS
  rintro s w t X q ⟨t3, ws6, rfl, rfl, hS⟩ h hX hO
  unfold T_matrix_laid_b7 at h
  try dsimp only
  refine cond_s h ?_ ?_ <;> clear h <;> intro hc h
  ·
   replace h := bnd h
   obtain ⟨o8, h8, c8⟩ := h
   refine cutM_i (fun s w => ∃ (ws7 : List Nat), (List.map nf ws7) = o8 ∧ s = (()) ∧ Ho w0 w ((cl r3 [.int .i64 q0, .int .i64 q1, .slice (some ⟨r2, 0, none⟩) (((IntKind.i64.wrap (q0 * q1))).toNat) (((IntKind.i64.wrap (q0 * q1))).toNat)] N.t_Matrix) :: (sl (some ⟨r2, 0, none⟩) (((IntKind.i64.wrap (q0 * q1))).toNat) (((IntKind.i64.wrap (q0 * q1))).toNat) (List.map (Value.float .f64) ws7) N.t_float64) :: (cl r1 [.int .i64 0, .int .i64 0, .slice none 0 0] N.t_Matrix) :: L)) (fun J8 hJ8 => ?_) ?_
   ·
    have h := h8
    clear h8
    refine iter_sim (fun s w t => ∃ (t6 : Int) (ws9 : List Nat), (t6, (List.map nf ws9)) = t ∧ s = (t6, ()) ∧ Ho w0 w ((cl r3 [.int .i64 q0, .int .i64 q1, .slice (some ⟨r2, 0, none⟩) (((IntKind.i64.wrap (q0 * q1))).toNat) (((IntKind.i64.wrap (q0 * q1))).toNat)] N.t_Matrix) :: (sl (some ⟨r2, 0, none⟩) (((IntKind.i64.wrap (q0 * q1))).toNat) (((IntKind.i64.wrap (q0 * q1))).toNat) (List.map (Value.float .f64) ws9) N.t_float64) :: (cl r1 [.int .i64 0, .int .i64 0, .slice none 0 0] N.t_Matrix) :: L)) ?_ h ⟨_, _, rfl, rfl, hS⟩
    clear h hS
    rintro s w t X q ⟨t6, ws9, rfl, rfl, hS⟩ h hX hO
    unfold T_matrix_laid_b9 at h
    try dsimp only
    refine cond_s h ?_ ?_ <;> clear h <;> intro hc h
    ·
     refine ⟨_, _, _, (hS.cel mp0 rfl), ?_⟩
     refine drM_s hS ?_; clear hS; intro w hS
     replace h := bnd h
     obtain ⟨t8, ht8, h⟩ := h
     refine hf2 _ _ _ _ _ _ tl3 ht8 hS ?_; clear hS ht8; rintro z10 w rfl hS
     refine ⟨_, rfl, ?_⟩
     refine ⟨(hS.cel mp0 rfl), ?_⟩
     replace h := bnd h
     obtain ⟨t9, ht9, h⟩ := h
     obtain ⟨z11, rfl, q12x, q12l, q12r⟩ := atF ht9
     clear ht9
     refine idx_s ((Ent.sl mp1).now (fun _ h => h) hS) q12x q12l q12r ?_; intro b13 hb13
     refine drM_s hS ?_; clear hS; intro w hS
     replace hS := ro1 hS
     replace h := bnd h
     obtain ⟨t10, ht10, h⟩ := h
     obtain rfl := setF ht10
     clear ht10
     refine sto_s hS hb13 q12r ?_; clear hS; intro w hS
     refine drM_s hS ?_; clear hS; intro w hS
     obtain rfl := some_inj h
     exact hX _ rfl _ _ ⟨_, _, rfl, rfl, (hS.pick (A := [_, _, _]) [1, 0, 0] rfl)⟩
    ·
     obtain rfl := some_inj h
     have h := congrArg some (hO _ rfl)
     obtain rfl := some_inj h
     exact hJ8 _ _ ⟨_, rfl, rfl, hS⟩
   ·
    clear h8 hS
    rintro s w ⟨ws7, rfl, rfl, hS⟩
    have h := c8
    clear c8
    try dsimp only
    obtain rfl := some_inj h
    exact hX _ rfl _ _ ⟨_, _, rfl, rfl, hS⟩
  ·
   obtain rfl := some_inj h
   have h := congrArg some (hO _ rfl)
   obtain rfl := some_inj h
   exact hJ5 _ _ ⟨_, rfl, rfl, hS⟩
 ·
  clear h5 hS
  rintro s w ⟨ws4, rfl, rfl, hS⟩
  have h := c5
  clear c5
  try dsimp only
  refine ⟨_, (hS.cel mp0 rfl), ?_⟩
  refine ⟨_, (hS.cel mp0 rfl), ?_⟩
  refine ⟨_, _, _, (hS.cel mp0 rfl), ?_⟩
  replace hS := ro2 hS
  refine stc_s hS rfl rfl ?_; clear hS; intro w hS
  refine stc_s hS rfl rfl ?_; clear hS; intro w hS
  refine stc_s hS rfl rfl ?_; clear hS; intro w hS
  refine ⟨_, (hS.cel mp0 rfl), ?_⟩
  refine ⟨_, (hS.cel mp0 rfl), ?_⟩
  refine ⟨_, _, _, (hS.cel mp0 rfl), ?_⟩
  have h := some_inj h
  cases h
  exact hK _ _ _ _ _ rfl (hS.pick (A := [_, _, _]) [2] rfl)
theorem wk_matrix_Transpose {q0_0 : Int} {q0_1 : Int} {q0_2 : Option Addr} {q0_2l q0_2c : Nat} {ws0_2 : List Nat} {u0 : Int} {u1 : Int} {u2 : List Nat} {u3 : Int} (hS : Ho w0 w (L)) (hq0_2 : Ent L (rdA (List.map (Value.float .f64) ws0_2) q0_2 q0_2l q0_2c)) (hx : T_matrix_Transpose q0_0 q0_1 (List.map nf ws0_2) = some (u0, u1, u2, u3)) (hK : ∀ (a2 : Option Addr) (n2 c2 : Nat) (rws2 : List Nat) (w1 : World), List.map nf rws2 = u2 → Ho w0 w1 ((sl a2 n2 c2 (List.map (Value.float .f64) rws2) N.t_float64) :: L) → K (.tuple #[.agg #[.int .i64 u0, .int .i64 u1, .slice a2 n2 c2], .int .i64 u3]) w1) : CallsX P N.f_matrix_Transpose #[.agg #[.int .i64 q0_0, .int .i64 q0_1, .slice q0_2 q0_2l q0_2c]] w K := by
 refine H.matrix_Transpose q0_0 q0_1 q0_2 q0_2l q0_2c w _ ?_
 unfold S_matrix_Transpose
 unfold T_matrix_Transpose at hx
 have h := hx
 clear hx
 try dsimp only
 refine newM_s hS ?_; clear hS; intro r1 w hS
 refine newM_s hS ?_; clear hS; intro r2 w hS
 refine ⟨_, (hS.cel mp1 rfl), ?_⟩
 refine ⟨_, (hS.cel mp1 rfl), ?_⟩
 refine ⟨_, _, _, (hS.cel mp1 rfl), ?_⟩
 replace h := bnd h
 obtain ⟨t1, ht1, h⟩ := h
 refine wk_matrix_Right H hS (hq0_2.mono tl2) ht1 ?_; clear hS ht1; rintro w hS
 refine ⟨_, rfl, ?_⟩
 refine cond_s h ?_ ?_ <;> clear h <;> intro hc h
 ·
  refine stc_s hS rfl rfl ?_; clear hS; intro w hS
  refine stc_s hS rfl rfl ?_; clear hS; intro w hS
  refine stc_s hS rfl rfl ?_; clear hS; intro w hS
  refine ⟨_, (hS.cel mp0 rfl), ?_⟩
  refine ⟨_, (hS.cel mp0 rfl), ?_⟩
  refine ⟨_, _, _, (hS.cel mp0 rfl), ?_⟩
  replace hS := hS.none (α := Nat) (enc := (Value.float .f64)) (t := N.t_float64)
  have h := some_inj h
  cases h
  exact hK _ _ _ _ _ rfl (hS.pick (A := [_, _, _]) [0] rfl)
 ·
  refine ⟨_, (hS.cel mp1 rfl), ?_⟩
  refine ⟨_, (hS.cel mp1 rfl), ?_⟩
  replace h := bnd h
  obtain ⟨⟨t2, t3, t4⟩, ho2, h⟩ := h
  refine wk_matrix_laid H hS (by intro v0 v1 w L1 r1 K hL hx hS hK; exact wk_matrix_Transpose_1 H hS ((Ent.of mp1).mono hL) ((hq0_2.mono tl2).mono hL) hx hK) ho2 ?_; clear hS ho2; rintro a3 m3 c3 ws3 w rfl hS
  refine ⟨_, _, _, _, _, rfl, ?_⟩
  replace hS := ro1 hS
  refine stc_s hS rfl rfl ?_; clear hS; intro w hS
  refine stc_s hS rfl rfl ?_; clear hS; intro w hS
  refine stc_s hS rfl rfl ?_; clear hS; intro w hS
  refine ⟨_, (hS.cel mp0 rfl), ?_⟩
  refine ⟨_, (hS.cel mp0 rfl), ?_⟩
  refine ⟨_, _, _, (hS.cel mp0 rfl), ?_⟩
  have h := some_inj h
  cases h
  exact hK _ _ _ _ _ rfl (hS.pick (A := [_, _, _]) [1] rfl)
theorem wk_math_IsNaN {q0 : Nat} {u0 : Bool} (hS : Ho w0 w (L))  (hx : T_math_IsNaN (nf q0) = some u0) (hK : ∀  (w1 : World), Ho w0 w1 (L) → K (.bool u0) w1) : CallsX P N.f_math_IsNaN #[.float .f64 q0] w K := by
 refine H.math_IsNaN q0 w _ ?_
 unfold S_math_IsNaN
 unfold T_math_IsNaN at hx
 have h := hx
 clear hx
 try dsimp only
 replace h := bnd h
 obtain ⟨t1, ht1, h⟩ := h
 obtain rfl := fne_s ht1
 clear ht1
 have h := some_inj h
 cases h
 exact hK _ hS
theorem wk_vector_Same {q0 : Option Addr} {q0l q0c : Nat} {ws0 : List Nat} {q1 : Option Addr} {q1l q1c : Nat} {ws1 : List Nat} {u0 : Bool} (hS : Ho w0 w (L)) (hq0 : Ent L (rdA (List.map (Value.float .f64) ws0) q0 q0l q0c)) (hq1 : Ent L (rdA (List.map (Value.float .f64) ws1) q1 q1l q1c)) (hx : T_vector_Same (List.map nf ws0) (List.map nf ws1) = some u0) (hK : ∀  (w1 : World), Ho w0 w1 (L) → K (.bool u0) w1) : CallsX P N.f_vector_Same #[.slice q0 q0l q0c, .slice q1 q1l q1c] w K := by
 unfold T_vector_Same at hx
 have hd : (List.map nf ws0).length ≤ 4294967296 := by
  rcases Nat.lt_or_ge 4294967296 (List.map nf ws0).length with h | h
  ·
   rw [decide_eq_false (by omega)] at hx; cases hx
  ·
   exact h
 rw [decide_eq_true hd] at hx
 have hx := some_inj hx
 subst hx
 have r0 := (hq0.now (fun _ h => h) hS).reals
 refine (vsame_c H r0 (hq1.now (fun _ h => h) hS).reals (by have := r0.len; simp at hd; omega)).mono ?_
 rintro _ w1 ⟨rfl, h1⟩
 exact hK _ (hS.next h1)
theorem wk_matrix_Same {q0_0 : Int} {q0_1 : Int} {q0_2 : Option Addr} {q0_2l q0_2c : Nat} {ws0_2 : List Nat} {q1_0 : Int} {q1_1 : Int} {q1_2 : Option Addr} {q1_2l q1_2c : Nat} {ws1_2 : List Nat} {u0 : Bool} (hS : Ho w0 w (L)) (hq0_2 : Ent L (rdA (List.map (Value.float .f64) ws0_2) q0_2 q0_2l q0_2c)) (hq1_2 : Ent L (rdA (List.map (Value.float .f64) ws1_2) q1_2 q1_2l q1_2c)) (hx : T_matrix_Same q0_0 q0_1 (List.map nf ws0_2) q1_0 q1_1 (List.map nf ws1_2) = some u0) (hK : ∀  (w1 : World), Ho w0 w1 (L) → K (.bool u0) w1) : CallsX P N.f_matrix_Same #[.agg #[.int .i64 q0_0, .int .i64 q0_1, .slice q0_2 q0_2l q0_2c], .agg #[.int .i64 q1_0, .int .i64 q1_1, .slice q1_2 q1_2l q1_2c]] w K := by
 refine H.matrix_Same q0_0 q0_1 q0_2 q0_2l q0_2c q1_0 q1_1 q1_2 q1_2l q1_2c w _ ?_
 unfold S_matrix_Same
 unfold T_matrix_Same at hx
 have h := hx
 clear hx
 try dsimp only
 refine newM_s hS ?_; clear hS; intro r1 w hS
 refine newM_s hS ?_; clear hS; intro r2 w hS
 refine ⟨_, (hS.cel mp1 rfl), ?_⟩
 refine ⟨_, (hS.cel mp0 rfl), ?_⟩
 refine cond_s h ?_ ?_ <;> clear h <;> intro hc h
 ·
  refine ⟨_, (hS.cel mp1 rfl), ?_⟩
  refine ⟨_, (hS.cel mp0 rfl), ?_⟩
  refine cond_s h ?_ ?_ <;> clear h <;> intro hc h
  ·
   refine ⟨_, _, _, (hS.cel mp1 rfl), ?_⟩
   refine ⟨_, _, _, (hS.cel mp0 rfl), ?_⟩
   replace h := bnd h
   obtain ⟨t1, ht1, h⟩ := h
   refine wk_vector_Same H hS (hq0_2.mono tl2) (hq1_2.mono tl2) ht1 ?_; clear hS ht1; rintro w hS
   refine ⟨_, rfl, ?_⟩
   have h := some_inj h
   cases h
   exact hK _ (hS.pick (A := [_, _]) [] rfl)
  ·
   have h := some_inj h
   cases h
   exact hK _ (hS.pick (A := [_, _]) [] rfl)
 ·
  have h := some_inj h
  cases h
  exact hK _ (hS.pick (A := [_, _]) [] rfl)
theorem wk_matrix_Symmetric {q0_0 : Int} {q0_1 : Int} {q0_2 : Option Addr} {q0_2l q0_2c : Nat} {ws0_2 : List Nat} {u0 : Bool} (hS : Ho w0 w (L)) (hq0_2 : Ent L (rdA (List.map (Value.float .f64) ws0_2) q0_2 q0_2l q0_2c)) (hx : T_matrix_Symmetric q0_0 q0_1 (List.map nf ws0_2) = some u0) (hK : ∀  (w1 : World), Ho w0 w1 (L) → K (.bool u0) w1) : CallsX P N.f_matrix_Symmetric #[.agg #[.int .i64 q0_0, .int .i64 q0_1, .slice q0_2 q0_2l q0_2c]] w K := by
 refine H.matrix_Symmetric q0_0 q0_1 q0_2 q0_2l q0_2c w _ ?_
 unfold S_matrix_Symmetric
 unfold T_matrix_Symmetric at hx
 have h := hx
 clear hx
 try dsimp only
 refine newM_s hS ?_; clear hS; intro r1 w hS
 refine ⟨_, (hS.cel mp0 rfl), ?_⟩
 refine ⟨_, (hS.cel mp0 rfl), ?_⟩
 refine ⟨_, _, _, (hS.cel mp0 rfl), ?_⟩
 replace h := bnd h
 obtain ⟨⟨t1, t2, t3, t4⟩, ho1, h⟩ := h
 refine wk_matrix_Transpose H hS (hq0_2.mono tl1) ho1 ?_; clear hS ho1; rintro a2 m2 c2 ws2 w rfl hS
 refine ⟨_, _, _, _, _, _, rfl, ?_⟩
 refine newM_s hS ?_; clear hS; intro r3 w hS
 refine stc_s hS rfl rfl ?_; clear hS; intro w hS
 refine stc_s hS rfl rfl ?_; clear hS; intro w hS
 refine stc_s hS rfl rfl ?_; clear hS; intro w hS
 refine cond_s h ?_ ?_ <;> clear h <;> intro hc h
 ·
  refine ⟨_, (hS.cel mp0 rfl), ?_⟩
  refine ⟨_, (hS.cel mp0 rfl), ?_⟩
  refine ⟨_, _, _, (hS.cel mp0 rfl), ?_⟩
  refine ⟨_, (hS.cel mp2 rfl), ?_⟩
  refine ⟨_, (hS.cel mp2 rfl), ?_⟩
  refine ⟨_, _, _, (hS.cel mp2 rfl), ?_⟩
  replace h := bnd h
  obtain ⟨t5, ht5, h⟩ := h
  refine wk_matrix_Same H hS (Ent.sl mp1) (hq0_2.mono tl3) ht5 ?_; clear hS ht5; rintro w hS
  refine ⟨_, rfl, ?_⟩
  have h := some_inj h
  cases h
  exact hK _ (hS.pick (A := [_, _, _]) [] rfl)
 ·
  have h := some_inj h
  cases h
  exact hK _ (hS.pick (A := [_, _, _]) [] rfl)
theorem wk_math_Float64frombits {q0 : Int} {u0 : Nat} (hS : Ho w0 w (L))  (hx : T_math_Float64frombits q0 = some u0) (hK : ∀ (z0 : Nat) (w1 : World), nf z0 = u0 → Ho w0 w1 (L) → K (.float .f64 z0) w1) : CallsX P N.f_math_Float64frombits #[.int .u64 q0] w K := by
 unfold T_math_Float64frombits at hx
 have hx := some_inj hx
 exact H.math_Float64frombits q0 w _ (hK _ _ hx hS)
theorem wk_math_Abs {q0 : Nat} {u0 : Nat} (hS : Ho w0 w (L))  (hx : T_math_Abs (nf q0) = some u0) (hK : ∀ (z0 : Nat) (w1 : World), nf z0 = u0 → Ho w0 w1 (L) → K (.float .f64 z0) w1) : CallsX P N.f_math_Abs #[.float .f64 q0] w K := by
 unfold T_math_Abs at hx
 have hx := some_inj hx
 refine (abs_c H q0 w).mono ?_
 rintro _ w1 ⟨rfl, h1⟩
 exact hK _ _ ((nf_magF q0).symm.trans hx) (hS.next h1)
theorem wk_math_IsInf {q0 : Nat} {q1 : Int} {u0 : Bool} (hS : Ho w0 w (L))  (hx : T_math_IsInf (nf q0) q1 = some u0) (hK : ∀  (w1 : World), Ho w0 w1 (L) → K (.bool u0) w1) : CallsX P N.f_math_IsInf #[.float .f64 q0, .int .i64 q1] w K := by
 refine H.math_IsInf q0 q1 w _ ?_
 unfold S_math_IsInf
 unfold T_math_IsInf at hx
 have h := hx
 clear hx
 try dsimp only
 replace h := bnd h
 obtain ⟨o2, h2, c2⟩ := h
 refine cutM_i (fun s w => ∃ (z1 : Nat), (nf z1) = o2 ∧ s = (z1, ()) ∧ Ho w0 w (L)) (fun J2 hJ2 => ?_) ?_
 ·
  have h := h2
  clear h2
  refine cond_s h ?_ ?_ <;> clear h <;> intro hc h
  ·
   replace h := bnd h
   obtain ⟨t2, ht2, h⟩ := h
   refine wk_math_Abs H hS  ht2 ?_; clear hS ht2; rintro z3 w rfl hS
   refine ⟨_, rfl, ?_⟩
   obtain rfl := some_inj h
   exact hJ2 _ _ ⟨_, rfl, rfl, hS⟩
  ·
   replace h := bnd h
   obtain ⟨o5, h5, c5⟩ := h
   refine cutM_i (fun s w => ∃ (z4 : Nat), (nf z4) = o5 ∧ s = (z4, ()) ∧ Ho w0 w (L)) (fun J5 hJ5 => ?_) ?_
   ·
    have h := h5
    clear h5
    refine cond_s h ?_ ?_ <;> clear h <;> intro hc h
    ·
     replace h := bnd h
     obtain ⟨t4, ht4, h⟩ := h
     obtain rfl := fneg_s ht4
     clear ht4
     obtain rfl := some_inj h
     exact hJ5 _ _ ⟨_, rfl, rfl, hS⟩
    ·
     obtain rfl := some_inj h
     exact hJ5 _ _ ⟨_, rfl, rfl, hS⟩
   ·
    clear h5 hS
    rintro s w ⟨z4, rfl, rfl, hS⟩
    have h := c5
    clear c5
    try dsimp only
    obtain rfl := some_inj h
    exact hJ2 _ _ ⟨_, rfl, rfl, hS⟩
 ·
  clear h2 hS
  rintro s w ⟨z1, rfl, rfl, hS⟩
  have h := c2
  clear c2
  try dsimp only
  replace h := bnd h
  obtain ⟨t5, ht5, h⟩ := h
  obtain rfl := fgt_s ht5
  clear ht5
  have h := some_inj h
  cases h
  exact hK _ hS
theorem wk_lower_finite {q0 : Nat} {u0 : Bool} (hS : Ho w0 w (L))  (hx : T_lower_finite (nf q0) = some u0) (hK : ∀  (w1 : World), Ho w0 w1 (L) → K (.bool u0) w1) : CallsX P N.f_lower_finite #[.float .f64 q0] w K := by
 refine H.lower_finite q0 w _ ?_
 unfold S_lower_finite
 unfold T_lower_finite at hx
 have h := hx
 clear hx
 try dsimp only
 replace h := bnd h
 obtain ⟨t1, ht1, h⟩ := h
 refine wk_math_IsNaN H hS  ht1 ?_; clear hS ht1; rintro w hS
 refine ⟨_, rfl, ?_⟩
 refine cond_s h ?_ ?_ <;> clear h <;> intro hc h
 ·
  replace h := bnd h
  obtain ⟨t2, ht2, h⟩ := h
  refine wk_math_IsInf H hS  ht2 ?_; clear hS ht2; rintro w hS
  refine ⟨_, rfl, ?_⟩
  have h := some_inj h
  cases h
  exact hK _ hS
 ·
  have h := some_inj h
  cases h
  exact hK _ hS
theorem wk_lower_row {q0 : Option Addr} {q0l q0c : Nat} {ws0 : List Nat} {q1 : Int} {u0a u0b : Int} (hS : Ho w0 w (L)) (hq0 : Ent L (rdA (List.map (Value.float .f64) ws0) q0 q0l q0c)) (hx : T_lower_row (List.map nf ws0) q1 = some (u0a, u0b)) (hK : ∀  (w1 : World), Ho w0 w1 (L) → K (.slice (slBase q0 u0a.toNat u0b.toNat 1) (u0b.toNat - u0a.toNat) (u0b.toNat - u0a.toNat)) w1) : CallsX P N.f_lower_row #[.slice q0 q0l q0c, .int .i64 q1] w K := by
 refine H.lower_row q0 q0l q0c q1 w _ ?_
 unfold S_lower_row
 unfold T_lower_row at hx
 have h := hx
 clear hx
 try dsimp only
 refine ⟨by decide, ?_⟩
 replace h := bnd h
 obtain ⟨t1, ht1, h⟩ := h
 obtain ⟨rfl, q10, q11, q12⟩ := subF ht1
 clear ht1
 have q13 := (hq0.now (fun _ h => h) hS).hiCap q12
 refine ⟨Int.le_trans q10 q11, q13, Int.le_trans q10 q11, Int.le_refl _, q10, q11, ?_⟩
 have h := some_inj h
 cases h
 exact hK _ hS
theorem wk_lower_Factor {q0_0 : Int} {q0_1 : Int} {q0_2 : Option Addr} {q0_2l q0_2c : Nat} {ws0_2 : List Nat} {u0 : Int} {u1 : List Nat} {u2 : List Nat} {u3 : Int} {u4 : Int} (hS : Ho w0 w (L)) (hq0_2 : Ent L (rdA (List.map (Value.float .f64) ws0_2) q0_2 q0_2l q0_2c)) (hx : T_lower_Factor q0_0 q0_1 (List.map nf ws0_2) = some (u0, u1, u2, u3, u4)) (hK : ∀ (a1 : Option Addr) (n1 c1 : Nat) (rws1 : List Nat) (a2 : Option Addr) (n2 c2 : Nat) (rws2 : List Nat) (w1 : World), List.map nf rws1 = u1 → List.map nf rws2 = u2 → Ho w0 w1 ((sl a1 n1 c1 (List.map (Value.float .f64) rws1) N.t_float64) :: (sl a2 n2 c2 (List.map (Value.float .f64) rws2) N.t_float64) :: L) → K (.tuple #[.agg #[.int .i64 u0, .slice a1 n1 c1, .slice a2 n2 c2], .int .i64 u3, .int .i64 u4]) w1) : CallsX P N.f_lower_Factor #[.agg #[.int .i64 q0_0, .int .i64 q0_1, .slice q0_2 q0_2l q0_2c]] w K := by
 refine H.lower_Factor q0_0 q0_1 q0_2 q0_2l q0_2c w _ ?_
 unfold S_lower_Factor
 unfold T_lower_Factor at hx
 have h := hx
 clear hx
 try dsimp only
 refine newM_s hS ?_; clear hS; intro r1 w hS
 refine newM_s hS ?_; clear hS; intro r2 w hS
 refine ⟨_, (hS.cel mp1 rfl), ?_⟩
 refine ⟨_, (hS.cel mp1 rfl), ?_⟩
 refine ⟨_, _, _, (hS.cel mp1 rfl), ?_⟩
 replace h := bnd h
 obtain ⟨t1, ht1, h⟩ := h
 refine wk_matrix_Symmetric H hS (hq0_2.mono tl2) ht1 ?_; clear hS ht1; rintro w hS
 refine ⟨_, rfl, ?_⟩
 refine cond_s h ?_ ?_ <;> clear h <;> intro hc h
 ·
  refine ⟨_, (hS.cel mp0 rfl), ?_⟩
  refine ⟨_, _, _, (hS.cel mp0 rfl), ?_⟩
  refine ⟨_, _, _, (hS.cel mp0 rfl), ?_⟩
  refine stc_s hS rfl rfl ?_; clear hS; intro w hS
  refine stc_s hS rfl rfl ?_; clear hS; intro w hS
  refine stc_s hS rfl rfl ?_; clear hS; intro w hS
  refine ⟨_, (hS.cel mp0 rfl), ?_⟩
  refine ⟨_, _, _, (hS.cel mp0 rfl), ?_⟩
  refine ⟨_, _, _, (hS.cel mp0 rfl), ?_⟩
  replace hS := hS.none (α := Nat) (enc := (Value.float .f64)) (t := N.t_float64)
  replace hS := hS.none (α := Nat) (enc := (Value.float .f64)) (t := N.t_float64)
  have h := some_inj h
  cases h
  exact hK _ _ _ _ _ _ _ _ _ rfl rfl (hS.pick (A := [_, _, _, _]) [1, 0] rfl)
 ·
  refine ⟨_, _, _, (hS.cel mp1 rfl), ?_⟩
  replace h := bnd h
  obtain ⟨t2, ht2, h⟩ := h
  obtain rfl := lenF ht2 ((hq0_2.mono tl2).now (fun _ h => h) hS)
  clear ht2
  replace h := bnd h
  obtain ⟨o3, h3, c3⟩ := h
  refine cutM_i (fun s w => ∃ (t3 : Int) (t4 : Int), .inl (t3, t4) = o3 ∧ s = (t3, t4, ()) ∧ Ho w0 w ((cl r2 [.int .i64 0, .slice none 0 0, .slice none 0 0] N.t_Factor) :: (cl r1 [.int .i64 q0_0, .int .i64 q0_1, .slice q0_2 q0_2l q0_2c] N.t_Matrix) :: L)) (fun J3 hJ3 => ?_) ?_
  ·
   have h := h3
   clear h3
   refine iter_sim (fun s w t => ∃ (t5 : Int) (t6 : Int) (t7 : Int), (t5, t6, t7) = t ∧ s = (t5, t6, t7, ()) ∧ Ho w0 w ((cl r2 [.int .i64 0, .slice none 0 0, .slice none 0 0] N.t_Factor) :: (cl r1 [.int .i64 q0_0, .int .i64 q0_1, .slice q0_2 q0_2l q0_2c] N.t_Matrix) :: L)) ?_ h ⟨_, _, _, rfl, rfl, hS⟩
   clear h hS
   rintro s w t X q ⟨t5, t6, t7, rfl, rfl, hS⟩ h hX hO
   unfold T_lower_Factor_b2 at h
   try dsimp only
   refine cond_s h ?_ ?_ <;> clear h <;> intro hc h
   ·
    replace h := bnd h
    obtain ⟨t8, ht8, h⟩ := h
    obtain ⟨z4, rfl, q5x, q5l, q5r⟩ := atF ht8
    clear ht8
    refine idx_s ((hq0_2.mono tl2).now (fun _ h => h) hS) q5x q5l q5r ?_; intro b6 hb6
    refine ⟨_, rd_get ((hq0_2.mono tl2).now (fun _ h => h) hS) hb6 q5x, ?_⟩
    replace h := bnd h
    obtain ⟨t9, ht9, h⟩ := h
    refine wk_lower_finite H hS  ht9 ?_; clear hS ht9; rintro w hS
    refine ⟨_, rfl, ?_⟩
    refine cond_s h ?_ ?_ <;> clear h <;> intro hc h
    ·
     refine ⟨_, (hS.cel mp0 rfl), ?_⟩
     refine ⟨_, _, _, (hS.cel mp0 rfl), ?_⟩
     refine ⟨_, _, _, (hS.cel mp0 rfl), ?_⟩
     refine stc_s hS rfl rfl ?_; clear hS; intro w hS
     refine stc_s hS rfl rfl ?_; clear hS; intro w hS
     refine stc_s hS rfl rfl ?_; clear hS; intro w hS
     obtain rfl := some_inj h
     have h := congrArg some (hO _ rfl)
     obtain rfl := some_inj h
     have h := c3
     refine ⟨_, (hS.cel mp0 rfl), ?_⟩
     refine ⟨_, _, _, (hS.cel mp0 rfl), ?_⟩
     refine ⟨_, _, _, (hS.cel mp0 rfl), ?_⟩
     replace hS := hS.none (α := Nat) (enc := (Value.float .f64)) (t := N.t_float64)
     replace hS := hS.none (α := Nat) (enc := (Value.float .f64)) (t := N.t_float64)
     have h := some_inj h
     cases h
     exact hK _ _ _ _ _ _ _ _ _ rfl rfl (hS.pick (A := [_, _, _, _]) [1, 0] rfl)
    ·
     obtain rfl := some_inj h
     exact hX _ rfl _ _ ⟨_, _, _, rfl, rfl, hS⟩
   ·
    obtain rfl := some_inj h
    have h := congrArg some (hO _ rfl)
    obtain rfl := some_inj h
    exact hJ3 _ _ ⟨_, _, rfl, rfl, hS⟩
  ·
   clear h3 hS
   rintro s w ⟨t3, t4, rfl, rfl, hS⟩
   have h := c3
   clear c3
   try dsimp only
   refine ⟨_, (hS.cel mp1 rfl), ?_⟩
   replace h := bnd h
   obtain ⟨o11, h11, c11⟩ := h
   refine cutM_i (fun s w => ∃ (r7 : Nat) (ws8 : List Nat) (r9 : Nat) (ws10 : List Nat), ((List.map nf ws8), (List.map nf ws10)) = o11 ∧ s = (((some ⟨r9, 0, none⟩), ((IntKind.i64.wrap ((IntKind.i64.wrap (q0_0 * (IntKind.i64.wrap (q0_0 - 1)))).tdiv 2))).toNat, ((IntKind.i64.wrap ((IntKind.i64.wrap (q0_0 * (IntKind.i64.wrap (q0_0 - 1)))).tdiv 2))).toNat), ((some ⟨r7, 0, none⟩), (q0_0).toNat, (q0_0).toNat), ()) ∧ Ho w0 w ((sl (some ⟨r7, 0, none⟩) ((q0_0).toNat) ((q0_0).toNat) (List.map (Value.float .f64) ws8) N.t_float64) :: (sl (some ⟨r9, 0, none⟩) (((IntKind.i64.wrap ((IntKind.i64.wrap (q0_0 * (IntKind.i64.wrap (q0_0 - 1)))).tdiv 2))).toNat) (((IntKind.i64.wrap ((IntKind.i64.wrap (q0_0 * (IntKind.i64.wrap (q0_0 - 1)))).tdiv 2))).toNat) (List.map (Value.float .f64) ws10) N.t_float64) :: (cl r2 [.int .i64 0, .slice none 0 0, .slice none 0 0] N.t_Factor) :: (cl r1 [.int .i64 q0_0, .int .i64 q0_1, .slice q0_2 q0_2l q0_2c] N.t_Matrix) :: L)) (fun J11 hJ11 => ?_) ?_
   ·
    have h := h11
    clear h11
    refine ⟨by decide, ?_⟩
    replace h := bnd h
    obtain ⟨t12, ht12, h⟩ := h
    replace h := bnd h
    obtain ⟨t13, ht13, h⟩ := h
    refine ⟨?_, ?_⟩
    ·
     refine drM_s hS ?_; clear hS; intro w hS
     skip
     skip
     obtain ⟨rfl, kt12⟩ := mkF ht12
     clear ht12
     refine mk_s (enc := (Value.float .f64)) hS kt12 rfl ?_; clear hS kt12; intro r12 w hS
     refine drM_s hS ?_; clear hS; intro w hS
     skip
     skip
     obtain ⟨rfl, kt13⟩ := mkF ht13
     clear ht13
     refine mk_s (enc := (Value.float .f64)) hS kt13 rfl ?_; clear hS kt13; intro r13 w hS
     refine drM_s hS ?_; clear hS; intro w hS
     obtain rfl := some_inj h
     exact hJ11 _ _ ⟨_, _, _, _, rfl, rfl, hS⟩
    ·
     refine drM_s hS ?_; clear hS; intro w hS
     skip
     skip
     obtain ⟨rfl, kt13⟩ := mkF ht13
     clear ht13
     refine mk_s (enc := (Value.float .f64)) hS kt13 rfl ?_; clear hS kt13; intro r14 w hS
     refine drM_s hS ?_; clear hS; intro w hS
     skip
     skip
     obtain ⟨rfl, kt12⟩ := mkF ht12
     clear ht12
     refine mk_s (enc := (Value.float .f64)) hS kt12 rfl ?_; clear hS kt12; intro r15 w hS
     refine drM_s hS ?_; clear hS; intro w hS
     obtain rfl := some_inj h
     exact hJ11 _ _ ⟨_, _, _, _, rfl, rfl, (hS.pick (A := [_, _, _, _]) [1, 0, 0, 0] rfl)⟩
   ·
    clear h11 hS
    rintro s w ⟨r7, ws8, r9, ws10, rfl, rfl, hS⟩
    have h := c11
    clear c11
    try dsimp only
    replace h := bnd h
    obtain ⟨t14, ht14, h⟩ := h
    obtain ⟨rfl, kt14⟩ := mkF ht14
    clear ht14
    refine mk_s (enc := (Value.float .f64)) hS kt14 rfl ?_; clear hS kt14; intro r16 w hS
    replace h := bnd h
    obtain ⟨o19, h19, c19⟩ := h
    refine cutM_i (fun s w => ∃ (t15 : Int) (t16 : Int) (ws17 : List Nat) (ws18 : List Nat), (t15, t16, (List.map nf ws17), (List.map nf ws18)) = o19 ∧ s = (t15, t16, ()) ∧ Ho w0 w ((sl (some ⟨r7, 0, none⟩) ((q0_0).toNat) ((q0_0).toNat) (List.map (Value.float .f64) ws17) N.t_float64) :: (sl (some ⟨r9, 0, none⟩) (((IntKind.i64.wrap ((IntKind.i64.wrap (q0_0 * (IntKind.i64.wrap (q0_0 - 1)))).tdiv 2))).toNat) (((IntKind.i64.wrap ((IntKind.i64.wrap (q0_0 * (IntKind.i64.wrap (q0_0 - 1)))).tdiv 2))).toNat) (List.map (Value.float .f64) ws18) N.t_float64) :: (cl r2 [.int .i64 0, .slice none 0 0, .slice none 0 0] N.t_Factor) :: L)) (fun J19 hJ19 => ?_) ?_
    ·
     have h := h19
     clear h19
     refine iter_sim (fun s w t => ∃ (t19 : Int) (t20 : Int) (t21 : Int) (ws20 : List Nat) (ws21 : List Nat) (ws22 : List Nat), (t19, t20, t21, (List.map nf ws20), (List.map nf ws21), (List.map nf ws22)) = t ∧ s = (t19, t20, t21, ()) ∧ Ho w0 w ((sl (some ⟨r16, 0, none⟩) ((q0_0).toNat) ((q0_0).toNat) (List.map (Value.float .f64) ws20) N.t_float64) :: (sl (some ⟨r7, 0, none⟩) ((q0_0).toNat) ((q0_0).toNat) (List.map (Value.float .f64) ws21) N.t_float64) :: (sl (some ⟨r9, 0, none⟩) (((IntKind.i64.wrap ((IntKind.i64.wrap (q0_0 * (IntKind.i64.wrap (q0_0 - 1)))).tdiv 2))).toNat) (((IntKind.i64.wrap ((IntKind.i64.wrap (q0_0 * (IntKind.i64.wrap (q0_0 - 1)))).tdiv 2))).toNat) (List.map (Value.float .f64) ws22) N.t_float64) :: (cl r2 [.int .i64 0, .slice none 0 0, .slice none 0 0] N.t_Factor) :: (cl r1 [.int .i64 q0_0, .int .i64 q0_1, .slice q0_2 q0_2l q0_2c] N.t_Matrix) :: L)) ?_ h ⟨_, _, _, _, _, _, rfl, rfl, hS⟩
     clear h hS
     rintro s w t X q ⟨t19, t20, t21, ws20, ws21, ws22, rfl, rfl, hS⟩ h hX hO
     unfold T_lower_Factor_b29 at h
     try dsimp only
     refine cond_s h ?_ ?_ <;> clear h <;> intro hc h
     ·
      replace h := bnd h
      obtain ⟨⟨t25, t26⟩, ho25, h⟩ := h
      refine wk_lower_row H hS (Ent.sl mp2) ho25 ?_; clear hS ho25; rintro w hS
      refine ⟨_, _, _, rfl, ?_⟩
      replace h := bnd h
      obtain ⟨t27, ht27, h⟩ := h
      obtain ⟨rfl, q240, q241, q242⟩ := subF ht27
      clear ht27
      have q243 := ((Ent.sl mp2).now (fun _ h => h) hS).hiCap q242
      refine ⟨_, _, _, (hS.cel mp4 rfl), ?_⟩
      replace h := bnd h
      obtain ⟨t28, ht28, h⟩ := h
      obtain ⟨z25, rfl, q26x, q26l, q26r⟩ := atF ht28
      clear ht28
      refine idx_s ((hq0_2.mono tl5).now (fun _ h => h) hS) q26x q26l q26r ?_; intro b27 hb27
      refine ⟨_, rd_get ((hq0_2.mono tl5).now (fun _ h => h) hS) hb27 q26x, ?_⟩
      replace h := bnd h
      obtain ⟨t29, ht29, h⟩ := h
      obtain rfl := lenF ht29 ((Ent.part3 (Ent.sl mp2) q240 q241 q242 (Int.le_refl _) q243).now (fun _ h => h) hS)
      clear ht29
      replace h := bnd h
      obtain ⟨o30, h30, c30⟩ := h
      refine cutM_i (fun s w => ∃ (z28 : Nat) (ws29 : List Nat), ((nf z28), (List.map nf ws29)) = o30 ∧ s = (z28, ()) ∧ Ho w0 w ((sl (some ⟨r16, 0, none⟩) ((q0_0).toNat) ((q0_0).toNat) (List.map (Value.float .f64) ws29) N.t_float64) :: (sl (some ⟨r7, 0, none⟩) ((q0_0).toNat) ((q0_0).toNat) (List.map (Value.float .f64) ws21) N.t_float64) :: (sl (some ⟨r9, 0, none⟩) (((IntKind.i64.wrap ((IntKind.i64.wrap (q0_0 * (IntKind.i64.wrap (q0_0 - 1)))).tdiv 2))).toNat) (((IntKind.i64.wrap ((IntKind.i64.wrap (q0_0 * (IntKind.i64.wrap (q0_0 - 1)))).tdiv 2))).toNat) (List.map (Value.float .f64) ws22) N.t_float64) :: (cl r2 [.int .i64 0, .slice none 0 0, .slice none 0 0] N.t_Factor) :: (cl r1 [.int .i64 q0_0, .int .i64 q0_1, .slice q0_2 q0_2l q0_2c] N.t_Matrix) :: L)) (fun J30 hJ30 => ?_) ?_
      ·
       have h := h30
       clear h30
       refine iter_sim (fun s w t => ∃ (z31 : Nat) (t33 : Int) (ws32 : List Nat), ((nf z31), t33, (List.map nf ws32)) = t ∧ s = (z31, t33, ()) ∧ Ho w0 w ((sl (some ⟨r16, 0, none⟩) ((q0_0).toNat) ((q0_0).toNat) (List.map (Value.float .f64) ws32) N.t_float64) :: (sl (some ⟨r7, 0, none⟩) ((q0_0).toNat) ((q0_0).toNat) (List.map (Value.float .f64) ws21) N.t_float64) :: (sl (some ⟨r9, 0, none⟩) (((IntKind.i64.wrap ((IntKind.i64.wrap (q0_0 * (IntKind.i64.wrap (q0_0 - 1)))).tdiv 2))).toNat) (((IntKind.i64.wrap ((IntKind.i64.wrap (q0_0 * (IntKind.i64.wrap (q0_0 - 1)))).tdiv 2))).toNat) (List.map (Value.float .f64) ws22) N.t_float64) :: (cl r2 [.int .i64 0, .slice none 0 0, .slice none 0 0] N.t_Factor) :: (cl r1 [.int .i64 q0_0, .int .i64 q0_1, .slice q0_2 q0_2l q0_2c] N.t_Matrix) :: L)) ?_ h ⟨_, _, _, rfl, rfl, hS⟩
       clear h hS
       rintro s w t X q ⟨z31, t33, ws32, rfl, rfl, hS⟩ h hX hO
       unfold T_lower_Factor_b31 at h
       try dsimp only
       refine cond_s h ?_ ?_ <;> clear h <;> intro hc h
       ·
        replace h := bnd h
        obtain ⟨t35, ht35, h⟩ := h
        obtain ⟨z33, rfl, q34x, q34l, q34r⟩ := atF ht35
        clear ht35
        refine idx_s ((Ent.part3 (Ent.sl mp2) q240 q241 q242 (Int.le_refl _) q243).now (fun _ h => h) hS) q34x q34l q34r ?_; intro b35 hb35
        refine ⟨_, rd_get ((Ent.part3 (Ent.sl mp2) q240 q241 q242 (Int.le_refl _) q243).now (fun _ h => h) hS) hb35 q34x, ?_⟩
        replace h := bnd h
        obtain ⟨t36, ht36, h⟩ := h
        obtain ⟨z36, rfl, q37x, q37l, q37r⟩ := atF ht36
        clear ht36
        refine idx_s ((Ent.sl mp1).now (fun _ h => h) hS) q37x q37l q37r ?_; intro b38 hb38
        refine ⟨_, rd_get ((Ent.sl mp1).now (fun _ h => h) hS) hb38 q37x, ?_⟩
        replace h := bnd h
        obtain ⟨t37, ht37, h⟩ := h
        refine fmul_s ht37 hS ?_; clear hS ht37; rintro z39 w rfl hS
        replace h := bnd h
        obtain ⟨t38, ht38, h⟩ := h
        obtain ⟨z40, rfl, q41x, q41l, q41r⟩ := atF ht38
        clear ht38
        refine idy_s ((Ent.sl mp0).now (fun _ h => h) hS) q41x q41l q41r ?_
        replace h := bnd h
        obtain ⟨t39, ht39, h⟩ := h
        obtain rfl := setF ht39
        clear ht39
        refine sto_s hS rfl q41r ?_; clear hS; intro w hS
        replace h := bnd h
        obtain ⟨t40, ht40, h⟩ := h
        obtain ⟨z43, rfl, q44x, q44l, q44r⟩ := atF ht40
        clear ht40
        refine idy_s ((Ent.sl mp0).now (fun _ h => h) hS) q44x q44l q44r ?_
        refine ⟨_, rd_get ((Ent.sl mp0).now (fun _ h => h) hS) rfl q44x, ?_⟩
        replace h := bnd h
        obtain ⟨t41, ht41, h⟩ := h
        refine fmul_s ht41 hS ?_; clear hS ht41; rintro z46 w rfl hS
        replace h := bnd h
        obtain ⟨t42, ht42, h⟩ := h
        refine fsub_s ht42 hS ?_; clear hS ht42; rintro z47 w rfl hS
        obtain rfl := some_inj h
        exact hX _ rfl _ _ ⟨_, _, _, rfl, rfl, hS⟩
       ·
        obtain rfl := some_inj h
        have h := congrArg some (hO _ rfl)
        obtain rfl := some_inj h
        exact hJ30 _ _ ⟨_, _, rfl, rfl, hS⟩
      ·
       clear h30 hS
       rintro s w ⟨z28, ws29, rfl, rfl, hS⟩
       have h := c30
       clear c30
       try dsimp only
       replace h := bnd h
       obtain ⟨o48, h48, c48⟩ := h
       refine cutM_i (fun s w => ∃ (t43 : Bool), t43 = o48 ∧ s = (t43, ()) ∧ Ho w0 w ((sl (some ⟨r16, 0, none⟩) ((q0_0).toNat) ((q0_0).toNat) (List.map (Value.float .f64) ws29) N.t_float64) :: (sl (some ⟨r7, 0, none⟩) ((q0_0).toNat) ((q0_0).toNat) (List.map (Value.float .f64) ws21) N.t_float64) :: (sl (some ⟨r9, 0, none⟩) (((IntKind.i64.wrap ((IntKind.i64.wrap (q0_0 * (IntKind.i64.wrap (q0_0 - 1)))).tdiv 2))).toNat) (((IntKind.i64.wrap ((IntKind.i64.wrap (q0_0 * (IntKind.i64.wrap (q0_0 - 1)))).tdiv 2))).toNat) (List.map (Value.float .f64) ws22) N.t_float64) :: (cl r2 [.int .i64 0, .slice none 0 0, .slice none 0 0] N.t_Factor) :: (cl r1 [.int .i64 q0_0, .int .i64 q0_1, .slice q0_2 q0_2l q0_2c] N.t_Matrix) :: L)) (fun J48 hJ48 => ?_) ?_
       ·
        have h := h48
        clear h48
        replace h := bnd h
        obtain ⟨t44, ht44, h⟩ := h
        obtain rfl := fgt_s ht44
        clear ht44
        refine cond_s h ?_ ?_ <;> clear h <;> intro hc h
        ·
         replace h := bnd h
         obtain ⟨t45, ht45, h⟩ := h
         refine wk_lower_finite H hS  ht45 ?_; clear hS ht45; rintro w hS
         refine ⟨_, rfl, ?_⟩
         obtain rfl := some_inj h
         exact hJ48 _ _ ⟨_, rfl, rfl, hS⟩
        ·
         obtain rfl := some_inj h
         exact hJ48 _ _ ⟨_, rfl, rfl, hS⟩
       ·
        clear h48 hS
        rintro s w ⟨t43, rfl, rfl, hS⟩
        have h := c48
        clear c48
        try dsimp only
        refine cond_s h ?_ ?_ <;> clear h <;> intro hc h
        ·
         obtain rfl := some_inj h
         have h := congrArg some (hO _ rfl)
         obtain rfl := some_inj h
         exact hJ19 _ _ ⟨_, _, _, _, rfl, rfl, (hS.pick (A := [_, _, _, _, _]) [1, 1, 1] rfl)⟩
        ·
         replace h := bnd h
         obtain ⟨t46, ht46, h⟩ := h
         obtain ⟨z49, rfl, q50x, q50l, q50r⟩ := atF ht46
         clear ht46
         refine idx_s ((Ent.sl mp1).now (fun _ h => h) hS) q50x q50l q50r ?_; intro b51 hb51
         replace hS := ro1 hS
         replace h := bnd h
         obtain ⟨t47, ht47, h⟩ := h
         obtain rfl := setF ht47
         clear ht47
         refine sto_s hS hb51 q50r ?_; clear hS; intro w hS
         replace h := bnd h
         obtain ⟨o53, h53, c53⟩ := h
         refine cutM_i (fun s w => ∃ (t48 : Int) (t49 : Int) (ws52 : List Nat), .inl (t48, t49, (List.map nf ws52)) = o53 ∧ s = (t48, t49, ()) ∧ Ho w0 w ((sl (some ⟨r7, 0, none⟩) ((q0_0).toNat) ((q0_0).toNat) (List.map (Value.float .f64) (ws21.set (t21).toNat z28)) N.t_float64) :: (sl (some ⟨r16, 0, none⟩) ((q0_0).toNat) ((q0_0).toNat) (List.map (Value.float .f64) ws29) N.t_float64) :: (sl (some ⟨r9, 0, none⟩) (((IntKind.i64.wrap ((IntKind.i64.wrap (q0_0 * (IntKind.i64.wrap (q0_0 - 1)))).tdiv 2))).toNat) (((IntKind.i64.wrap ((IntKind.i64.wrap (q0_0 * (IntKind.i64.wrap (q0_0 - 1)))).tdiv 2))).toNat) (List.map (Value.float .f64) ws52) N.t_float64) :: (cl r2 [.int .i64 0, .slice none 0 0, .slice none 0 0] N.t_Factor) :: (cl r1 [.int .i64 q0_0, .int .i64 q0_1, .slice q0_2 q0_2l q0_2c] N.t_Matrix) :: L)) (fun J53 hJ53 => ?_) ?_
         ·
          have h := h53
          clear h53
          refine iter_sim (fun s w t => ∃ (t51 : Int) (t52 : Int) (t53 : Int) (ws54 : List Nat), (t51, t52, t53, (List.map nf ws54)) = t ∧ s = (t51, t52, t53, ()) ∧ Ho w0 w ((sl (some ⟨r7, 0, none⟩) ((q0_0).toNat) ((q0_0).toNat) (List.map (Value.float .f64) (ws21.set (t21).toNat z28)) N.t_float64) :: (sl (some ⟨r16, 0, none⟩) ((q0_0).toNat) ((q0_0).toNat) (List.map (Value.float .f64) ws29) N.t_float64) :: (sl (some ⟨r9, 0, none⟩) (((IntKind.i64.wrap ((IntKind.i64.wrap (q0_0 * (IntKind.i64.wrap (q0_0 - 1)))).tdiv 2))).toNat) (((IntKind.i64.wrap ((IntKind.i64.wrap (q0_0 * (IntKind.i64.wrap (q0_0 - 1)))).tdiv 2))).toNat) (List.map (Value.float .f64) ws54) N.t_float64) :: (cl r2 [.int .i64 0, .slice none 0 0, .slice none 0 0] N.t_Factor) :: (cl r1 [.int .i64 q0_0, .int .i64 q0_1, .slice q0_2 q0_2l q0_2c] N.t_Matrix) :: L)) ?_ h ⟨_, _, _, _, rfl, rfl, hS⟩
          clear h hS
          rintro s w t X q ⟨t51, t52, t53, ws54, rfl, rfl, hS⟩ h hX hO
          unfold T_lower_Factor_b38 at h
          try dsimp only
          refine cond_s h ?_ ?_ <;> clear h <;> intro hc h
          ·
           replace h := bnd h
           obtain ⟨⟨t55, t56⟩, ho55, h⟩ := h
           refine wk_lower_row H hS (Ent.sl mp2) ho55 ?_; clear hS ho55; rintro w hS
           refine ⟨_, _, _, rfl, ?_⟩
           replace h := bnd h
           obtain ⟨t57, ht57, h⟩ := h
           obtain ⟨rfl, q560, q561, q562⟩ := subF ht57
           clear ht57
           have q563 := ((Ent.sl mp2).now (fun _ h => h) hS).hiCap q562
           refine ⟨_, _, _, (hS.cel mp4 rfl), ?_⟩
           replace h := bnd h
           obtain ⟨t58, ht58, h⟩ := h
           obtain ⟨z57, rfl, q58x, q58l, q58r⟩ := atF ht58
           clear ht58
           refine idx_s ((hq0_2.mono tl5).now (fun _ h => h) hS) q58x q58l q58r ?_; intro b59 hb59
           refine ⟨_, rd_get ((hq0_2.mono tl5).now (fun _ h => h) hS) hb59 q58x, ?_⟩
           replace h := bnd h
           obtain ⟨o61, h61, c61⟩ := h
           refine cutM_i (fun s w => ∃ (z60 : Nat), (nf z60) = o61 ∧ s = (z60, ()) ∧ Ho w0 w ((sl (some ⟨r7, 0, none⟩) ((q0_0).toNat) ((q0_0).toNat) (List.map (Value.float .f64) (ws21.set (t21).toNat z28)) N.t_float64) :: (sl (some ⟨r16, 0, none⟩) ((q0_0).toNat) ((q0_0).toNat) (List.map (Value.float .f64) ws29) N.t_float64) :: (sl (some ⟨r9, 0, none⟩) (((IntKind.i64.wrap ((IntKind.i64.wrap (q0_0 * (IntKind.i64.wrap (q0_0 - 1)))).tdiv 2))).toNat) (((IntKind.i64.wrap ((IntKind.i64.wrap (q0_0 * (IntKind.i64.wrap (q0_0 - 1)))).tdiv 2))).toNat) (List.map (Value.float .f64) ws54) N.t_float64) :: (cl r2 [.int .i64 0, .slice none 0 0, .slice none 0 0] N.t_Factor) :: (cl r1 [.int .i64 q0_0, .int .i64 q0_1, .slice q0_2 q0_2l q0_2c] N.t_Matrix) :: L)) (fun J61 hJ61 => ?_) ?_
           ·
            have h := h61
            clear h61
            refine iter_sim (fun s w t => ∃ (z62 : Nat) (t61 : Int), ((nf z62), t61) = t ∧ s = (z62, t61, ()) ∧ Ho w0 w ((sl (some ⟨r7, 0, none⟩) ((q0_0).toNat) ((q0_0).toNat) (List.map (Value.float .f64) (ws21.set (t21).toNat z28)) N.t_float64) :: (sl (some ⟨r16, 0, none⟩) ((q0_0).toNat) ((q0_0).toNat) (List.map (Value.float .f64) ws29) N.t_float64) :: (sl (some ⟨r9, 0, none⟩) (((IntKind.i64.wrap ((IntKind.i64.wrap (q0_0 * (IntKind.i64.wrap (q0_0 - 1)))).tdiv 2))).toNat) (((IntKind.i64.wrap ((IntKind.i64.wrap (q0_0 * (IntKind.i64.wrap (q0_0 - 1)))).tdiv 2))).toNat) (List.map (Value.float .f64) ws54) N.t_float64) :: (cl r2 [.int .i64 0, .slice none 0 0, .slice none 0 0] N.t_Factor) :: (cl r1 [.int .i64 q0_0, .int .i64 q0_1, .slice q0_2 q0_2l q0_2c] N.t_Matrix) :: L)) ?_ h ⟨_, _, rfl, rfl, hS⟩
            clear h hS
            rintro s w t X q ⟨z62, t61, rfl, rfl, hS⟩ h hX hO
            unfold T_lower_Factor_b40 at h
            try dsimp only
            refine cond_s h ?_ ?_ <;> clear h <;> intro hc h
            ·
             replace h := bnd h
             obtain ⟨t62, ht62, h⟩ := h
             obtain ⟨z63, rfl, q64x, q64l, q64r⟩ := atF ht62
             clear ht62
             refine idx_s ((Ent.part3 (Ent.sl mp2) q560 q561 q562 (Int.le_refl _) q563).now (fun _ h => h) hS) q64x q64l q64r ?_; intro b65 hb65
             refine ⟨_, rd_get ((Ent.part3 (Ent.sl mp2) q560 q561 q562 (Int.le_refl _) q563).now (fun _ h => h) hS) hb65 q64x, ?_⟩
             replace h := bnd h
             obtain ⟨t63, ht63, h⟩ := h
             obtain ⟨z66, rfl, q67x, q67l, q67r⟩ := atF ht63
             clear ht63
             refine idy_s ((Ent.sl mp1).now (fun _ h => h) hS) q67x q67l q67r ?_
             refine ⟨_, rd_get ((Ent.sl mp1).now (fun _ h => h) hS) rfl q67x, ?_⟩
             replace h := bnd h
             obtain ⟨t64, ht64, h⟩ := h
             refine fmul_s ht64 hS ?_; clear ht64; rintro z69 _ rfl _
             replace h := bnd h
             obtain ⟨t65, ht65, h⟩ := h
             refine fsub_s ht65 hS ?_; clear ht65; rintro z70 _ rfl _
             refine drM_s hS ?_; clear hS; intro w hS
             obtain rfl := some_inj h
             exact hX _ rfl _ _ ⟨_, _, rfl, rfl, hS⟩
            ·
             obtain rfl := some_inj h
             have h := congrArg some (hO _ rfl)
             obtain rfl := some_inj h
             exact hJ61 _ _ ⟨_, rfl, rfl, hS⟩
           ·
            clear h61 hS
            rintro s w ⟨z60, rfl, rfl, hS⟩
            have h := c61
            clear c61
            try dsimp only
            replace h := bnd h
            obtain ⟨t66, ht66, h⟩ := h
            obtain ⟨z71, rfl, q72x, q72l, q72r⟩ := atF ht66
            clear ht66
            refine idx_s ((Ent.sl mp0).now (fun _ h => h) hS) q72x q72l q72r ?_; intro b73 hb73
            refine ⟨_, rd_get ((Ent.sl mp0).now (fun _ h => h) hS) hb73 q72x, ?_⟩
            replace h := bnd h
            obtain ⟨t67, ht67, h⟩ := h
            refine fdiv_s ht67 hS ?_; clear hS ht67; rintro z74 w rfl hS
            replace h := bnd h
            obtain ⟨t68, ht68, h⟩ := h
            obtain ⟨z75, rfl, q76x, q76l, q76r⟩ := atF ht68
            clear ht68
            refine idx_s ((Ent.part3 (Ent.sl mp2) q560 q561 q562 (Int.le_refl _) q563).now (fun _ h => h) hS) q76x q76l q76r ?_; intro b77 hb77
            replace hS := ro2 hS
            replace h := bnd h
            obtain ⟨t69, ht69, h⟩ := h
            obtain rfl := setF ht69
            clear ht69
            refine stp_s (len := (t56).toNat - (t55).toNat) hS hb77 (by rw [len_take q562] at q76r; exact q76r) (by omega) (by omega) ?_; clear hS; intro w hS
            replace h := bnd h
            obtain ⟨t70, ht70, h⟩ := h
            obtain ⟨rfl, q780, q781, q782⟩ := subF ht70
            clear ht70
            have q783 := ((Ent.sl mp0).now (fun _ h => h) hS).hiCap q782
            replace h := bnd h
            obtain ⟨t71, ht71, h⟩ := h
            obtain ⟨z79, rfl, q80x, q80l, q80r⟩ := atF ht71
            clear ht71
            refine idx_s ((Ent.part3 (Ent.sl mp0) q780 q781 q782 (Int.le_refl _) q783).now (fun _ h => h) hS) q80x q80l q80r ?_; intro b81 hb81
            refine ⟨_, rd_get ((Ent.part3 (Ent.sl mp0) q780 q781 q782 (Int.le_refl _) q783).now (fun _ h => h) hS) hb81 q80x, ?_⟩
            replace h := bnd h
            obtain ⟨t72, ht72, h⟩ := h
            refine wk_lower_finite H hS  ht72 ?_; clear hS ht72; rintro w hS
            refine ⟨_, rfl, ?_⟩
            refine cond_s h ?_ ?_ <;> clear h <;> intro hc h
            ·
             obtain rfl := some_inj h
             have h := congrArg some (hO _ rfl)
             obtain rfl := some_inj h
             have h := c53
             obtain rfl := some_inj h
             have h := congrArg some (hO _ rfl)
             obtain rfl := some_inj h
             exact hJ19 _ _ ⟨_, _, _, _, rfl, rfl, (hS.pick (A := [_, _, _, _, _]) [1, 0, 1] rfl)⟩
            ·
             obtain rfl := some_inj h
             exact hX _ rfl _ _ ⟨_, _, _, _, rfl, rfl, (hS.pick (A := [_, _, _, _, _]) [1, 1, 0, 0, 0] rfl)⟩
          ·
           obtain rfl := some_inj h
           have h := congrArg some (hO _ rfl)
           obtain rfl := some_inj h
           exact hJ53 _ _ ⟨_, _, _, rfl, rfl, hS⟩
         ·
          clear h53 hS
          rintro s w ⟨t48, t49, ws52, rfl, rfl, hS⟩
          have h := c53
          clear c53
          try dsimp only
          obtain rfl := some_inj h
          exact hX _ rfl _ _ ⟨_, _, _, _, _, _, rfl, rfl, (hS.pick (A := [_, _, _, _, _]) [1, 0, 0, 0, 0] rfl)⟩
     ·
      obtain rfl := some_inj h
      have h := congrArg some (hO _ rfl)
      obtain rfl := some_inj h
      exact hJ19 _ _ ⟨_, _, _, _, rfl, rfl, (hS.pick (A := [_, _, _, _, _]) [1, 1, 1] rfl)⟩
    ·
     clear h19 hS
     rintro s w ⟨t15, t16, ws17, ws18, rfl, rfl, hS⟩
     have h := c19
     clear c19
     try dsimp only
     refine cond_s h ?_ ?_ <;> clear h <;> intro hc h
     ·
      refine ⟨_, (hS.cel mp2 rfl), ?_⟩
      refine ⟨_, _, _, (hS.cel mp2 rfl), ?_⟩
      refine ⟨_, _, _, (hS.cel mp2 rfl), ?_⟩
      replace hS := ro2 hS
      refine stc_s hS rfl rfl ?_; clear hS; intro w hS
      refine stc_s hS rfl rfl ?_; clear hS; intro w hS
      refine stc_s hS rfl rfl ?_; clear hS; intro w hS
      refine ⟨_, (hS.cel mp0 rfl), ?_⟩
      refine ⟨_, _, _, (hS.cel mp0 rfl), ?_⟩
      refine ⟨_, _, _, (hS.cel mp0 rfl), ?_⟩
      replace hS := hS.none (α := Nat) (enc := (Value.float .f64)) (t := N.t_float64)
      replace hS := hS.none (α := Nat) (enc := (Value.float .f64)) (t := N.t_float64)
      have h := some_inj h
      cases h
      exact hK _ _ _ _ _ _ _ _ _ rfl rfl (hS.pick (A := [_, _, _, _, _]) [1, 0] rfl)
     ·
      replace hS := ro2 hS
      refine stc_s hS rfl rfl ?_; clear hS; intro w hS
      refine stc_s hS rfl rfl ?_; clear hS; intro w hS
      refine stc_s hS rfl rfl ?_; clear hS; intro w hS
      refine ⟨_, (hS.cel mp0 rfl), ?_⟩
      refine ⟨_, _, _, (hS.cel mp0 rfl), ?_⟩
      refine ⟨_, _, _, (hS.cel mp0 rfl), ?_⟩
      have h := some_inj h
      cases h
      exact hK _ _ _ _ _ _ _ _ _ rfl rfl (hS.pick (A := [_, _, _]) [2, 1] rfl)
theorem wk_lower_Right {q0_0 : Int} {q0_1 : Option Addr} {q0_1l q0_1c : Nat} {ws0_1 : List Nat} {q0_2 : Option Addr} {q0_2l q0_2c : Nat} {ws0_2 : List Nat} {u0 : Bool} (hS : Ho w0 w (L)) (hq0_1 : Ent L (rdA (List.map (Value.float .f64) ws0_1) q0_1 q0_1l q0_1c)) (hq0_2 : Ent L (rdA (List.map (Value.float .f64) ws0_2) q0_2 q0_2l q0_2c)) (hx : T_lower_Right q0_0 (List.map nf ws0_1) (List.map nf ws0_2) = some u0) (hK : ∀  (w1 : World), Ho w0 w1 (L) → K (.bool u0) w1) : CallsX P N.f_lower_Right #[.agg #[.int .i64 q0_0, .slice q0_1 q0_1l q0_1c, .slice q0_2 q0_2l q0_2c]] w K := by
 refine H.lower_Right q0_0 q0_1 q0_1l q0_1c q0_2 q0_2l q0_2c w _ ?_
 unfold S_lower_Right
 unfold T_lower_Right at hx
 have h := hx
 clear hx
 try dsimp only
 refine newM_s hS ?_; clear hS; intro r1 w hS
 refine ⟨_, (hS.cel mp0 rfl), ?_⟩
 refine cond_s h ?_ ?_ <;> clear h <;> intro hc h
 ·
  refine ⟨_, (hS.cel mp0 rfl), ?_⟩
  refine cond_s h ?_ ?_ <;> clear h <;> intro hc h
  ·
   refine ⟨_, _, _, (hS.cel mp0 rfl), ?_⟩
   replace h := bnd h
   obtain ⟨t1, ht1, h⟩ := h
   obtain rfl := lenF ht1 ((hq0_1.mono tl1).now (fun _ h => h) hS)
   clear ht1
   refine ⟨_, (hS.cel mp0 rfl), ?_⟩
   refine ⟨_, (hS.cel mp0 rfl), ?_⟩
   refine ⟨by decide, ?_⟩
   refine cond_s h ?_ ?_ <;> clear h <;> intro hc h
   ·
    refine ⟨_, _, _, (hS.cel mp0 rfl), ?_⟩
    replace h := bnd h
    obtain ⟨t2, ht2, h⟩ := h
    obtain rfl := lenF ht2 ((hq0_2.mono tl1).now (fun _ h => h) hS)
    clear ht2
    refine ⟨_, (hS.cel mp0 rfl), ?_⟩
    have h := some_inj h
    cases h
    exact hK _ (hS.pick (A := [_]) [] rfl)
   ·
    have h := some_inj h
    cases h
    exact hK _ (hS.pick (A := [_]) [] rfl)
  ·
   have h := some_inj h
   cases h
   exact hK _ (hS.pick (A := [_]) [] rfl)
 ·
  have h := some_inj h
  cases h
  exact hK _ (hS.pick (A := [_]) [] rfl)
theorem wk_math_Copysign {q0 : Nat} {q1 : Nat} {u0 : Nat} (hS : Ho w0 w (L))  (hx : T_math_Copysign (nf q0) (nf q1) = some u0) (hK : ∀ (z0 : Nat) (w1 : World), nf z0 = u0 → Ho w0 w1 (L) → K (.float .f64 z0) w1) : CallsX P N.f_math_Copysign #[.float .f64 q0, .float .f64 q1] w K := by
 unfold T_math_Copysign at hx
 have hn : isNaN q1 = false := by
  cases e : isNaN q1 with
  | false => rfl
  | true => rw [isNaN_nf, e] at hx; cases hx
 rw [isNaN_nf, hn, nf_of_not hn] at hx
 have hx := some_inj hx
 refine (copysign_c H q0 q1 w).mono ?_
 rintro _ w1 ⟨rfl, h1⟩
 exact hK _ _ ((nf_copy _ _).symm.trans hx) (hS.next h1)
theorem wk_math_NaN  {u0 : Nat} (hS : Ho w0 w (L))  (hx : T_math_NaN  = some u0) (hK : ∀ (z0 : Nat) (w1 : World), nf z0 = u0 → Ho w0 w1 (L) → K (.float .f64 z0) w1) : CallsX P N.f_math_NaN #[] w K := by
 refine H.math_NaN  w _ ?_
 unfold S_math_NaN
 unfold T_math_NaN at hx
 have h := hx
 clear hx
 try dsimp only
 replace h := bnd h
 obtain ⟨t1, ht1, h⟩ := h
 refine wk_math_Float64frombits H hS  ht1 ?_; clear hS ht1; rintro z1 w rfl hS
 refine ⟨_, rfl, ?_⟩
 have h := some_inj h
 cases h
 exact hK _ _ rfl hS
theorem wk_math_Inf {q0 : Int} {u0 : Nat} (hS : Ho w0 w (L))  (hx : T_math_Inf q0 = some u0) (hK : ∀ (z0 : Nat) (w1 : World), nf z0 = u0 → Ho w0 w1 (L) → K (.float .f64 z0) w1) : CallsX P N.f_math_Inf #[.int .i64 q0] w K := by
 refine H.math_Inf q0 w _ ?_
 unfold S_math_Inf
 unfold T_math_Inf at hx
 have h := hx
 clear hx
 try dsimp only
 replace h := bnd h
 obtain ⟨o1, h1, c1⟩ := h
 refine cutM_i (fun s w => ∃ (t1 : Int), t1 = o1 ∧ s = (t1, ()) ∧ Ho w0 w (L)) (fun J1 hJ1 => ?_) ?_
 ·
  have h := h1
  clear h1
  refine cond_s h ?_ ?_ <;> clear h <;> intro hc h
  ·
   obtain rfl := some_inj h
   exact hJ1 _ _ ⟨_, rfl, rfl, hS⟩
  ·
   obtain rfl := some_inj h
   exact hJ1 _ _ ⟨_, rfl, rfl, hS⟩
 ·
  clear h1 hS
  rintro s w ⟨t1, rfl, rfl, hS⟩
  have h := c1
  clear c1
  try dsimp only
  replace h := bnd h
  obtain ⟨t2, ht2, h⟩ := h
  refine wk_math_Float64frombits H hS  ht2 ?_; clear hS ht2; rintro z2 w rfl hS
  refine ⟨_, rfl, ?_⟩
  have h := some_inj h
  cases h
  exact hK _ _ rfl hS
theorem wk_matrix_Make_1 {q0 : Int} {q1 : Int} {u0 : Nat} (hS : Ho w0 w (L))  (hx : T_matrix_Make_1 q0 q1 = some u0) (hK : ∀ (z0 : Nat) (w1 : World), nf z0 = u0 → Ho w0 w1 (L) → K (.float .f64 z0) w1) : CallsX P N.f_matrix_Make_1 #[.int .i64 q0, .int .i64 q1] w K := by
 refine H.matrix_Make_1 q0 q1 w _ ?_
 unfold S_matrix_Make_1
 unfold T_matrix_Make_1 at hx
 have h := hx
 clear hx
 try dsimp only
 have h := some_inj h
 cases h
 exact hK _ _ rfl hS
theorem wk_matrix_Make {q0 : Int} {q1 : Int} {u0 : Int} {u1 : Int} {u2 : List Nat} {u3 : Int} (hS : Ho w0 w (L))  (hx : T_matrix_Make q0 q1 = some (u0, u1, u2, u3)) (hK : ∀ (a2 : Option Addr) (n2 c2 : Nat) (rws2 : List Nat) (w1 : World), List.map nf rws2 = u2 → Ho w0 w1 ((sl a2 n2 c2 (List.map (Value.float .f64) rws2) N.t_float64) :: L) → K (.tuple #[.agg #[.int .i64 u0, .int .i64 u1, .slice a2 n2 c2], .int .i64 u3]) w1) : CallsX P N.f_matrix_Make #[.int .i64 q0, .int .i64 q1] w K := by
 refine H.matrix_Make q0 q1 w _ ?_
 unfold S_matrix_Make
 unfold T_matrix_Make at hx
 have h := hx
 clear hx
 try dsimp only
 refine newM_s hS ?_; clear hS; intro r1 w hS
 replace h := bnd h
 obtain ⟨t1, ht1, h⟩ := h
 refine wk_matrix_fits H hS  ht1 ?_; clear hS ht1; rintro w hS
 refine ⟨_, rfl, ?_⟩
 refine cond_s h ?_ ?_ <;> clear h <;> intro hc h
 ·
  replace h := bnd h
  obtain ⟨t2, ht2, h⟩ := h
  refine wk_matrix_fits H hS  ht2 ?_; clear hS ht2; rintro w hS
  refine ⟨_, rfl, ?_⟩
  refine cond_s h ?_ ?_ <;> clear h <;> intro hc h
  ·
   refine stc_s hS rfl rfl ?_; clear hS; intro w hS
   refine stc_s hS rfl rfl ?_; clear hS; intro w hS
   refine stc_s hS rfl rfl ?_; clear hS; intro w hS
   refine ⟨_, (hS.cel mp0 rfl), ?_⟩
   refine ⟨_, (hS.cel mp0 rfl), ?_⟩
   refine ⟨_, _, _, (hS.cel mp0 rfl), ?_⟩
   replace hS := hS.none (α := Nat) (enc := (Value.float .f64)) (t := N.t_float64)
   have h := some_inj h
   cases h
   exact hK _ _ _ _ _ rfl (hS.pick (A := [_, _]) [0] rfl)
  ·
   replace h := bnd h
   obtain ⟨⟨t3, t4, t5⟩, ho3, h⟩ := h
   refine wk_matrix_laid H hS (by intro v0 v1 w L1 r1 K hL hx hS hK; exact wk_matrix_Make_1 H hS  hx hK) ho3 ?_; clear hS ho3; rintro a2 m2 c2 ws2 w rfl hS
   refine ⟨_, _, _, _, _, rfl, ?_⟩
   replace hS := ro1 hS
   refine stc_s hS rfl rfl ?_; clear hS; intro w hS
   refine stc_s hS rfl rfl ?_; clear hS; intro w hS
   refine stc_s hS rfl rfl ?_; clear hS; intro w hS
   refine ⟨_, (hS.cel mp0 rfl), ?_⟩
   refine ⟨_, (hS.cel mp0 rfl), ?_⟩
   refine ⟨_, _, _, (hS.cel mp0 rfl), ?_⟩
   have h := some_inj h
   cases h
   exact hK _ _ _ _ _ rfl (hS.pick (A := [_, _]) [1] rfl)
 ·
  refine stc_s hS rfl rfl ?_; clear hS; intro w hS
  refine stc_s hS rfl rfl ?_; clear hS; intro w hS
  refine stc_s hS rfl rfl ?_; clear hS; intro w hS
  refine ⟨_, (hS.cel mp0 rfl), ?_⟩
  refine ⟨_, (hS.cel mp0 rfl), ?_⟩
  refine ⟨_, _, _, (hS.cel mp0 rfl), ?_⟩
  replace hS := hS.none (α := Nat) (enc := (Value.float .f64)) (t := N.t_float64)
  have h := some_inj h
  cases h
  exact hK _ _ _ _ _ rfl (hS.pick (A := [_, _]) [0] rfl)
theorem wk_lower_Times {q0_0 : Int} {q0_1 : Option Addr} {q0_1l q0_1c : Nat} {ws0_1 : List Nat} {q0_2 : Option Addr} {q0_2l q0_2c : Nat} {ws0_2 : List Nat} {u0 : Int} {u1 : Int} {u2 : List Nat} {u3 : Int} (hS : Ho w0 w (L)) (hq0_1 : Ent L (rdA (List.map (Value.float .f64) ws0_1) q0_1 q0_1l q0_1c)) (hq0_2 : Ent L (rdA (List.map (Value.float .f64) ws0_2) q0_2 q0_2l q0_2c)) (hx : T_lower_Times q0_0 (List.map nf ws0_1) (List.map nf ws0_2) = some (u0, u1, u2, u3)) (hK : ∀ (a2 : Option Addr) (n2 c2 : Nat) (rws2 : List Nat) (w1 : World), List.map nf rws2 = u2 → Ho w0 w1 ((sl a2 n2 c2 (List.map (Value.float .f64) rws2) N.t_float64) :: L) → K (.tuple #[.agg #[.int .i64 u0, .int .i64 u1, .slice a2 n2 c2], .int .i64 u3]) w1) : CallsX P N.f_lower_Times #[.agg #[.int .i64 q0_0, .slice q0_1 q0_1l q0_1c, .slice q0_2 q0_2l q0_2c]] w K := by
 refine H.lower_Times q0_0 q0_1 q0_1l q0_1c q0_2 q0_2l q0_2c w _ ?_
 unfold S_lower_Times
 unfold T_lower_Times at hx
 have h := hx
 clear hx
 try dsimp only
 refine newM_s hS ?_; clear hS; intro r1 w hS
 refine newM_s hS ?_; clear hS; intro r2 w hS
 refine ⟨_, (hS.cel mp1 rfl), ?_⟩
 refine ⟨_, _, _, (hS.cel mp1 rfl), ?_⟩
 refine ⟨_, _, _, (hS.cel mp1 rfl), ?_⟩
 replace h := bnd h
 obtain ⟨t1, ht1, h⟩ := h
 refine wk_lower_Right H hS (hq0_1.mono tl2) (hq0_2.mono tl2) ht1 ?_; clear hS ht1; rintro w hS
 refine ⟨_, rfl, ?_⟩
 refine cond_s h ?_ ?_ <;> clear h <;> intro hc h
 ·
  refine stc_s hS rfl rfl ?_; clear hS; intro w hS
  refine stc_s hS rfl rfl ?_; clear hS; intro w hS
  refine stc_s hS rfl rfl ?_; clear hS; intro w hS
  refine ⟨_, (hS.cel mp0 rfl), ?_⟩
  refine ⟨_, (hS.cel mp0 rfl), ?_⟩
  refine ⟨_, _, _, (hS.cel mp0 rfl), ?_⟩
  replace hS := hS.none (α := Nat) (enc := (Value.float .f64)) (t := N.t_float64)
  have h := some_inj h
  cases h
  exact hK _ _ _ _ _ rfl (hS.pick (A := [_, _, _]) [0] rfl)
 ·
  refine ⟨_, (hS.cel mp1 rfl), ?_⟩
  replace h := bnd h
  obtain ⟨⟨t2, t3, t4, t5⟩, ho2, h⟩ := h
  refine wk_matrix_Make H hS  ho2 ?_; clear hS ho2; rintro a3 m3 c3 ws3 w rfl hS
  refine ⟨_, _, _, _, _, _, rfl, ?_⟩
  refine newM_s hS ?_; clear hS; intro r4 w hS
  refine stc_s hS rfl rfl ?_; clear hS; intro w hS
  refine stc_s hS rfl rfl ?_; clear hS; intro w hS
  refine stc_s hS rfl rfl ?_; clear hS; intro w hS
  replace h := bnd h
  obtain ⟨o6, h6, c6⟩ := h
  refine cutM_i (fun s w => ∃ (ws5 : List Nat), (List.map nf ws5) = o6 ∧ s = (()) ∧ Ho w0 w ((cl r4 [.int .i64 t2, .int .i64 t3, .slice a3 m3 c3] N.t_Matrix) :: (sl a3 m3 c3 (List.map (Value.float .f64) ws5) N.t_float64) :: (cl r2 [.int .i64 0, .int .i64 0, .slice none 0 0] N.t_Matrix) :: L)) (fun J6 hJ6 => ?_) ?_
  ·
   have h := h6
   clear h6
   refine iter_sim (fun s w t => ∃ (t7 : Int) (ws7 : List Nat), (t7, (List.map nf ws7)) = t ∧ s = (t7, ()) ∧ Ho w0 w ((cl r4 [.int .i64 t2, .int .i64 t3, .slice a3 m3 c3] N.t_Matrix) :: (sl a3 m3 c3 (List.map (Value.float .f64) ws7) N.t_float64) :: (cl r2 [.int .i64 0, .int .i64 0, .slice none 0 0] N.t_Matrix) :: (cl r1 [.int .i64 q0_0, .slice q0_1 q0_1l q0_1c, .slice q0_2 q0_2l q0_2c] N.t_Factor) :: L)) ?_ h ⟨_, _, rfl, rfl, hS⟩
   clear h hS
   rintro s w t X q ⟨t7, ws7, rfl, rfl, hS⟩ h hX hO
   unfold T_lower_Times_b27 at h
   try dsimp only
   refine cond_s h ?_ ?_ <;> clear h <;> intro hc h
   ·
    refine ⟨_, _, _, (hS.cel mp3 rfl), ?_⟩
    replace h := bnd h
    obtain ⟨⟨t9, t10⟩, ho9, h⟩ := h
    refine wk_lower_row H hS (hq0_1.mono tl4) ho9 ?_; clear hS ho9; rintro w hS
    refine ⟨_, _, _, rfl, ?_⟩
    replace h := bnd h
    obtain ⟨t11, ht11, h⟩ := h
    obtain ⟨rfl, q90, q91, q92⟩ := subF ht11
    clear ht11
    have q93 := ((hq0_1.mono tl4).now (fun _ h => h) hS).hiCap q92
    replace h := bnd h
    obtain ⟨t12, ht12, h⟩ := h
    obtain rfl : (List.map nf ([4607182418800017408] : List Nat)) = t12 := some_inj ht12
    clear ht12
    refine lit_s (ks := [4607182418800017408]) (enc := (Value.float .f64)) (m := 1) hS rfl rfl ?_; clear hS; intro r10 w hS
    replace h := bnd h
    obtain ⟨t13, ht13, h⟩ := h
    obtain ⟨rfl, kt13⟩ := appF ht13
    clear ht13
    refine appn_s hS ((Ent.part3 (hq0_1.mono tl5) q90 q91 q92 (Int.le_refl _) q93).now (fun _ h => h) hS) (by first | rfl | omega) (by simp) kt13 ((Ent.sl mp0).now (fun _ h => h) hS) rfl ?_; clear hS kt13; intro a11 c11 w hS
    replace h := bnd h
    obtain ⟨o13, h13, c13⟩ := h
    refine cutM_i (fun s w => ∃ (ws12 : List Nat), (List.map nf ws12) = o13 ∧ s = (()) ∧ Ho w0 w ((cl r4 [.int .i64 t2, .int .i64 t3, .slice a3 m3 c3] N.t_Matrix) :: (sl a3 m3 c3 (List.map (Value.float .f64) ws12) N.t_float64) :: (cl r2 [.int .i64 0, .int .i64 0, .slice none 0 0] N.t_Matrix) :: (cl r1 [.int .i64 q0_0, .slice q0_1 q0_1l q0_1c, .slice q0_2 q0_2l q0_2c] N.t_Factor) :: L)) (fun J13 hJ13 => ?_) ?_
    ·
     have h := h13
     clear h13
     refine iter_sim (fun s w t => ∃ (t15 : Int) (ws14 : List Nat), (t15, (List.map nf ws14)) = t ∧ s = (t15, ()) ∧ Ho w0 w ((sl a11 ((t10.toNat - t9.toNat) + 1) c11 (List.map (Value.float .f64) (((ws0_1.drop ((t9).toNat)).take ((t10).toNat - (t9).toNat)) ++ [4607182418800017408])) N.t_float64) :: (cl r4 [.int .i64 t2, .int .i64 t3, .slice a3 m3 c3] N.t_Matrix) :: (sl a3 m3 c3 (List.map (Value.float .f64) ws14) N.t_float64) :: (cl r2 [.int .i64 0, .int .i64 0, .slice none 0 0] N.t_Matrix) :: (cl r1 [.int .i64 q0_0, .slice q0_1 q0_1l q0_1c, .slice q0_2 q0_2l q0_2c] N.t_Factor) :: L)) ?_ h ⟨_, _, rfl, rfl, (hS.pick (A := [_, _, _, _, _, _]) [0, 1, 1, 1, 1] rfl)⟩
     clear h hS
     rintro s w t X q ⟨t15, ws14, rfl, rfl, hS⟩ h hX hO
     unfold T_lower_Times_b36 at h
     try dsimp only
     refine cond_s h ?_ ?_ <;> clear h <;> intro hc h
     ·
      refine ⟨_, _, _, (hS.cel mp4 rfl), ?_⟩
      replace h := bnd h
      obtain ⟨⟨t17, t18⟩, ho17, h⟩ := h
      refine wk_lower_row H hS (hq0_1.mono tl5) ho17 ?_; clear hS ho17; rintro w hS
      refine ⟨_, _, _, rfl, ?_⟩
      replace h := bnd h
      obtain ⟨t19, ht19, h⟩ := h
      obtain ⟨rfl, q160, q161, q162⟩ := subF ht19
      clear ht19
      have q163 := ((hq0_1.mono tl5).now (fun _ h => h) hS).hiCap q162
      replace h := bnd h
      obtain ⟨t20, ht20, h⟩ := h
      obtain rfl : (List.map nf ([4607182418800017408] : List Nat)) = t20 := some_inj ht20
      clear ht20
      refine lit_s (ks := [4607182418800017408]) (enc := (Value.float .f64)) (m := 1) hS rfl rfl ?_; clear hS; intro r17 w hS
      replace h := bnd h
      obtain ⟨t21, ht21, h⟩ := h
      obtain ⟨rfl, kt21⟩ := appF ht21
      clear ht21
      refine appn_s hS ((Ent.part3 (hq0_1.mono tl6) q160 q161 q162 (Int.le_refl _) q163).now (fun _ h => h) hS) (by first | rfl | omega) (by simp) kt21 ((Ent.sl mp0).now (fun _ h => h) hS) rfl ?_; clear hS kt21; intro a18 c18 w hS
      replace h := bnd h
      obtain ⟨o20, h20, c20⟩ := h
      refine cutM_i (fun s w => ∃ (z19 : Nat), (nf z19) = o20 ∧ s = (z19, ()) ∧ Ho w0 w ((sl a11 ((t10.toNat - t9.toNat) + 1) c11 (List.map (Value.float .f64) (((ws0_1.drop ((t9).toNat)).take ((t10).toNat - (t9).toNat)) ++ [4607182418800017408])) N.t_float64) :: (cl r4 [.int .i64 t2, .int .i64 t3, .slice a3 m3 c3] N.t_Matrix) :: (sl a3 m3 c3 (List.map (Value.float .f64) ws14) N.t_float64) :: (cl r2 [.int .i64 0, .int .i64 0, .slice none 0 0] N.t_Matrix) :: (cl r1 [.int .i64 q0_0, .slice q0_1 q0_1l q0_1c, .slice q0_2 q0_2l q0_2c] N.t_Factor) :: L)) (fun J20 hJ20 => ?_) ?_
      ·
       have h := h20
       clear h20
       refine iter_sim (fun s w t => ∃ (z21 : Nat) (t24 : Int), ((nf z21), t24) = t ∧ s = (z21, t24, ()) ∧ Ho w0 w ((sl a18 ((t18.toNat - t17.toNat) + 1) c18 (List.map (Value.float .f64) (((ws0_1.drop ((t17).toNat)).take ((t18).toNat - (t17).toNat)) ++ [4607182418800017408])) N.t_float64) :: (sl a11 ((t10.toNat - t9.toNat) + 1) c11 (List.map (Value.float .f64) (((ws0_1.drop ((t9).toNat)).take ((t10).toNat - (t9).toNat)) ++ [4607182418800017408])) N.t_float64) :: (cl r4 [.int .i64 t2, .int .i64 t3, .slice a3 m3 c3] N.t_Matrix) :: (sl a3 m3 c3 (List.map (Value.float .f64) ws14) N.t_float64) :: (cl r2 [.int .i64 0, .int .i64 0, .slice none 0 0] N.t_Matrix) :: (cl r1 [.int .i64 q0_0, .slice q0_1 q0_1l q0_1c, .slice q0_2 q0_2l q0_2c] N.t_Factor) :: L)) ?_ h ⟨_, _, rfl, rfl, (hS.pick (A := [_, _, _, _, _, _, _]) [0, 1, 1, 1, 1, 1] rfl)⟩
       clear h hS
       rintro s w t X q ⟨z21, t24, rfl, rfl, hS⟩ h hX hO
       unfold T_lower_Times_b38 at h
       try dsimp only
       refine cond_s h ?_ ?_ <;> clear h <;> intro hc h
       ·
        replace h := bnd h
        obtain ⟨t25, ht25, h⟩ := h
        obtain ⟨z22, rfl, q23x, q23l, q23r⟩ := atF ht25
        clear ht25
        refine idx_s ((Ent.sl mp1).now (fun _ h => h) hS) q23x q23l q23r ?_; intro b24 hb24
        refine ⟨_, rd_get ((Ent.sl mp1).now (fun _ h => h) hS) hb24 q23x, ?_⟩
        refine ⟨_, _, _, (hS.cel mp5 rfl), ?_⟩
        replace h := bnd h
        obtain ⟨t26, ht26, h⟩ := h
        obtain ⟨z25, rfl, q26x, q26l, q26r⟩ := atF ht26
        clear ht26
        refine idx_s ((hq0_2.mono tl6).now (fun _ h => h) hS) q26x q26l q26r ?_; intro b27 hb27
        refine ⟨_, rd_get ((hq0_2.mono tl6).now (fun _ h => h) hS) hb27 q26x, ?_⟩
        replace h := bnd h
        obtain ⟨t27, ht27, h⟩ := h
        refine fmul_s ht27 hS ?_; clear ht27; rintro z28 _ rfl _
        refine drM_s hS ?_; clear hS; intro w hS
        replace h := bnd h
        obtain ⟨t28, ht28, h⟩ := h
        obtain ⟨z29, rfl, q30x, q30l, q30r⟩ := atF ht28
        clear ht28
        refine idx_s ((Ent.sl mp0).now (fun _ h => h) hS) q30x q30l q30r ?_; intro b31 hb31
        refine ⟨_, rd_get ((Ent.sl mp0).now (fun _ h => h) hS) hb31 q30x, ?_⟩
        replace h := bnd h
        obtain ⟨t29, ht29, h⟩ := h
        refine fmul_s ht29 hS ?_; clear hS ht29; rintro z32 w rfl hS
        replace h := bnd h
        obtain ⟨t30, ht30, h⟩ := h
        refine fadd_s ht30 hS ?_; clear hS ht30; rintro z33 w rfl hS
        obtain rfl := some_inj h
        exact hX _ rfl _ _ ⟨_, _, rfl, rfl, hS⟩
       ·
        obtain rfl := some_inj h
        have h := congrArg some (hO _ rfl)
        obtain rfl := some_inj h
        exact hJ20 _ _ ⟨_, rfl, rfl, (hS.pick (A := [_, _, _, _, _, _]) [1, 1, 1, 1, 1] rfl)⟩
      ·
       clear h20 hS
       rintro s w ⟨z19, rfl, rfl, hS⟩
       have h := c20
       clear c20
       try dsimp only
       refine ⟨_, _, _, (hS.cel mp1 rfl), ?_⟩
       refine ⟨_, _, _, (hS.cel mp1 rfl), ?_⟩
       replace h := bnd h
       obtain ⟨t31, ht31, h⟩ := h
       obtain ⟨z34, rfl, q35x, q35l, q35r⟩ := atF ht31
       clear ht31
       refine idx_s ((Ent.sl mp2).now (fun _ h => h) hS) q35x q35l q35r ?_; intro b36 hb36
       refine drM_s hS ?_; clear hS; intro w hS
       replace hS := ro2 hS
       replace h := bnd h
       obtain ⟨t32, ht32, h⟩ := h
       obtain rfl := setF ht32
       clear ht32
       refine sto_s hS hb36 q35r ?_; clear hS; intro w hS
       refine ⟨(hS.cel mp2 rfl), ?_⟩
       replace h := bnd h
       obtain ⟨t33, ht33, h⟩ := h
       obtain ⟨z37, rfl, q38x, q38l, q38r⟩ := atF ht33
       clear ht33
       refine idx_s ((Ent.sl mp0).now (fun _ h => h) hS) q38x q38l q38r ?_; intro b39 hb39
       refine drM_s hS ?_; clear hS; intro w hS
       replace h := bnd h
       obtain ⟨t34, ht34, h⟩ := h
       obtain rfl := setF ht34
       clear ht34
       refine sto_s hS hb39 q38r ?_; clear hS; intro w hS
       refine drM_s hS ?_; clear hS; intro w hS
       obtain rfl := some_inj h
       exact hX _ rfl _ _ ⟨_, _, rfl, rfl, (hS.pick (A := [_, _, _, _, _]) [1, 1, 0, 0, 0] rfl)⟩
     ·
      obtain rfl := some_inj h
      have h := congrArg some (hO _ rfl)
      obtain rfl := some_inj h
      exact hJ13 _ _ ⟨_, rfl, rfl, (hS.pick (A := [_, _, _, _, _]) [1, 1, 1, 1] rfl)⟩
    ·
     clear h13 hS
     rintro s w ⟨ws12, rfl, rfl, hS⟩
     have h := c13
     clear c13
     try dsimp only
     obtain rfl := some_inj h
     exact hX _ rfl _ _ ⟨_, _, rfl, rfl, hS⟩
   ·
    obtain rfl := some_inj h
    have h := congrArg some (hO _ rfl)
    obtain rfl := some_inj h
    exact hJ6 _ _ ⟨_, rfl, rfl, (hS.pick (A := [_, _, _, _]) [0, 0, 0] rfl)⟩
  ·
   clear h6 hS
   rintro s w ⟨ws5, rfl, rfl, hS⟩
   have h := c6
   clear c6
   try dsimp only
   refine ⟨_, (hS.cel mp0 rfl), ?_⟩
   refine ⟨_, (hS.cel mp0 rfl), ?_⟩
   refine ⟨_, _, _, (hS.cel mp0 rfl), ?_⟩
   replace hS := ro2 hS
   refine stc_s hS rfl rfl ?_; clear hS; intro w hS
   refine stc_s hS rfl rfl ?_; clear hS; intro w hS
   refine stc_s hS rfl rfl ?_; clear hS; intro w hS
   refine ⟨_, (hS.cel mp0 rfl), ?_⟩
   refine ⟨_, (hS.cel mp0 rfl), ?_⟩
   refine ⟨_, _, _, (hS.cel mp0 rfl), ?_⟩
   have h := some_inj h
   cases h
   exact hK _ _ _ _ _ rfl (hS.pick (A := [_, _, _]) [2] rfl)
theorem wk_k_SameFloat {q0 : Nat} {q1 : Nat} {u0 : Bool} (hS : Ho w0 w (L))  (hx : T_k_SameFloat (nf q0) (nf q1) = some u0) (hK : ∀  (w1 : World), Ho w0 w1 (L) → K (.bool u0) w1) : CallsX P N.f_k_SameFloat #[.float .f64 q0, .float .f64 q1] w K := by
 unfold T_k_SameFloat at hx
 have hx := some_inj hx
 subst hx
 refine (sameFloat_c H q0 q1 w).mono ?_
 rintro _ w1 ⟨rfl, h1⟩
 exact hK _ (hS.next h1)
theorem wk_k_SameReals {q0 : Option Addr} {q0l q0c : Nat} {ws0 : List Nat} {q1 : Option Addr} {q1l q1c : Nat} {ws1 : List Nat} {u0 : Bool} (hS : Ho w0 w (L)) (hq0 : Ent L (rdA (List.map (Value.float .f64) ws0) q0 q0l q0c)) (hq1 : Ent L (rdA (List.map (Value.float .f64) ws1) q1 q1l q1c)) (hx : T_k_SameReals (List.map nf ws0) (List.map nf ws1) = some u0) (hK : ∀  (w1 : World), Ho w0 w1 (L) → K (.bool u0) w1) : CallsX P N.f_k_SameReals #[.slice q0 q0l q0c, .slice q1 q1l q1c] w K := by
 refine H.k_SameReals q0 q0l q0c q1 q1l q1c w _ ?_
 unfold S_k_SameReals
 unfold T_k_SameReals at hx
 have h := hx
 clear hx
 try dsimp only
 replace h := bnd h
 obtain ⟨t1, ht1, h⟩ := h
 obtain rfl := lenF ht1 (hq0.now (fun _ h => h) hS)
 clear ht1
 replace h := bnd h
 obtain ⟨t2, ht2, h⟩ := h
 obtain rfl := lenF ht2 (hq1.now (fun _ h => h) hS)
 clear ht2
 refine cond_s h ?_ ?_ <;> clear h <;> intro hc h
 ·
  have h := some_inj h
  cases h
  exact hK _ hS
 ·
  replace h := bnd h
  obtain ⟨o1, h1, c1⟩ := h
  refine cutM_i (fun s w =>  .inl () = o1 ∧ s = (()) ∧ Ho w0 w (L)) (fun J1 hJ1 => ?_) ?_
  ·
   have h := h1
   clear h1
   refine iter_sim (fun s w t => ∃ (t3 : Int), t3 = t ∧ s = (t3, ()) ∧ Ho w0 w (L)) ?_ h ⟨_, rfl, rfl, hS⟩
   clear h hS
   rintro s w t X q ⟨t3, rfl, rfl, hS⟩ h hX hO
   unfold T_k_SameReals_b2 at h
   try dsimp only
   replace h := bnd h
   obtain ⟨t4, ht4, h⟩ := h
   obtain rfl := lenF ht4 (hq0.now (fun _ h => h) hS)
   clear ht4
   refine cond_s h ?_ ?_ <;> clear h <;> intro hc h
   ·
    replace h := bnd h
    obtain ⟨t5, ht5, h⟩ := h
    obtain ⟨z2, rfl, q3x, q3l, q3r⟩ := atF ht5
    clear ht5
    refine idx_s (hq0.now (fun _ h => h) hS) q3x q3l q3r ?_; intro b4 hb4
    refine ⟨_, rd_get (hq0.now (fun _ h => h) hS) hb4 q3x, ?_⟩
    replace h := bnd h
    obtain ⟨t6, ht6, h⟩ := h
    obtain ⟨z5, rfl, q6x, q6l, q6r⟩ := atF ht6
    clear ht6
    refine idx_s (hq1.now (fun _ h => h) hS) q6x q6l q6r ?_; intro b7 hb7
    refine ⟨_, rd_get (hq1.now (fun _ h => h) hS) hb7 q6x, ?_⟩
    refine drM_s hS ?_; clear hS; intro w hS
    replace h := bnd h
    obtain ⟨t7, ht7, h⟩ := h
    refine wk_k_SameFloat H hS  ht7 ?_; clear hS ht7; rintro w hS
    refine ⟨_, rfl, ?_⟩
    refine drM_s hS ?_; clear hS; intro w hS
    refine cond_s h ?_ ?_ <;> clear h <;> intro hc h
    ·
     obtain rfl := some_inj h
     have h := congrArg some (hO _ rfl)
     obtain rfl := some_inj h
     have h := c1
     have h := some_inj h
     cases h
     exact hK _ hS
    ·
     obtain rfl := some_inj h
     exact hX _ rfl _ _ ⟨_, rfl, rfl, hS⟩
   ·
    obtain rfl := some_inj h
    have h := congrArg some (hO _ rfl)
    obtain rfl := some_inj h
    exact hJ1 _ _ ⟨rfl, rfl, hS⟩
  ·
   clear h1 hS
   rintro s w ⟨rfl, rfl, hS⟩
   have h := c1
   clear c1
   try dsimp only
   have h := some_inj h
   cases h
   exact hK _ hS
theorem wk_k_SameFactor {q0_0 : Int} {q0_1 : Option Addr} {q0_1l q0_1c : Nat} {ws0_1 : List Nat} {q0_2 : Option Addr} {q0_2l q0_2c : Nat} {ws0_2 : List Nat} {q1_0 : Int} {q1_1 : Option Addr} {q1_1l q1_1c : Nat} {ws1_1 : List Nat} {q1_2 : Option Addr} {q1_2l q1_2c : Nat} {ws1_2 : List Nat} {u0 : Bool} (hS : Ho w0 w (L)) (hq0_1 : Ent L (rdA (List.map (Value.float .f64) ws0_1) q0_1 q0_1l q0_1c)) (hq0_2 : Ent L (rdA (List.map (Value.float .f64) ws0_2) q0_2 q0_2l q0_2c)) (hq1_1 : Ent L (rdA (List.map (Value.float .f64) ws1_1) q1_1 q1_1l q1_1c)) (hq1_2 : Ent L (rdA (List.map (Value.float .f64) ws1_2) q1_2 q1_2l q1_2c)) (hx : T_k_SameFactor q0_0 (List.map nf ws0_1) (List.map nf ws0_2) q1_0 (List.map nf ws1_1) (List.map nf ws1_2) = some u0) (hK : ∀  (w1 : World), Ho w0 w1 (L) → K (.bool u0) w1) : CallsX P N.f_k_SameFactor #[.agg #[.int .i64 q0_0, .slice q0_1 q0_1l q0_1c, .slice q0_2 q0_2l q0_2c], .agg #[.int .i64 q1_0, .slice q1_1 q1_1l q1_1c, .slice q1_2 q1_2l q1_2c]] w K := by
 refine H.k_SameFactor q0_0 q0_1 q0_1l q0_1c q0_2 q0_2l q0_2c q1_0 q1_1 q1_1l q1_1c q1_2 q1_2l q1_2c w _ ?_
 unfold S_k_SameFactor
 unfold T_k_SameFactor at hx
 have h := hx
 clear hx
 try dsimp only
 refine newM_s hS ?_; clear hS; intro r1 w hS
 refine newM_s hS ?_; clear hS; intro r2 w hS
 refine ⟨_, (hS.cel mp1 rfl), ?_⟩
 refine ⟨_, (hS.cel mp0 rfl), ?_⟩
 refine cond_s h ?_ ?_ <;> clear h <;> intro hc h
 ·
  refine ⟨_, _, _, (hS.cel mp1 rfl), ?_⟩
  refine ⟨_, _, _, (hS.cel mp0 rfl), ?_⟩
  replace h := bnd h
  obtain ⟨t1, ht1, h⟩ := h
  refine wk_k_SameReals H hS (hq0_1.mono tl2) (hq1_1.mono tl2) ht1 ?_; clear hS ht1; rintro w hS
  refine ⟨_, rfl, ?_⟩
  refine cond_s h ?_ ?_ <;> clear h <;> intro hc h
  ·
   refine ⟨_, _, _, (hS.cel mp1 rfl), ?_⟩
   refine ⟨_, _, _, (hS.cel mp0 rfl), ?_⟩
   replace h := bnd h
   obtain ⟨t2, ht2, h⟩ := h
   refine wk_k_SameReals H hS (hq0_2.mono tl2) (hq1_2.mono tl2) ht2 ?_; clear hS ht2; rintro w hS
   refine ⟨_, rfl, ?_⟩
   have h := some_inj h
   cases h
   exact hK _ (hS.pick (A := [_, _]) [] rfl)
  ·
   have h := some_inj h
   cases h
   exact hK _ (hS.pick (A := [_, _]) [] rfl)
 ·
  have h := some_inj h
  cases h
  exact hK _ (hS.pick (A := [_, _]) [] rfl)
theorem wk_k_SameMatrix {q0_0 : Int} {q0_1 : Int} {q0_2 : Option Addr} {q0_2l q0_2c : Nat} {ws0_2 : List Nat} {q1_0 : Int} {q1_1 : Int} {q1_2 : Option Addr} {q1_2l q1_2c : Nat} {ws1_2 : List Nat} {u0 : Bool} (hS : Ho w0 w (L)) (hq0_2 : Ent L (rdA (List.map (Value.float .f64) ws0_2) q0_2 q0_2l q0_2c)) (hq1_2 : Ent L (rdA (List.map (Value.float .f64) ws1_2) q1_2 q1_2l q1_2c)) (hx : T_k_SameMatrix q0_0 q0_1 (List.map nf ws0_2) q1_0 q1_1 (List.map nf ws1_2) = some u0) (hK : ∀  (w1 : World), Ho w0 w1 (L) → K (.bool u0) w1) : CallsX P N.f_k_SameMatrix #[.agg #[.int .i64 q0_0, .int .i64 q0_1, .slice q0_2 q0_2l q0_2c], .agg #[.int .i64 q1_0, .int .i64 q1_1, .slice q1_2 q1_2l q1_2c]] w K := by
 refine H.k_SameMatrix q0_0 q0_1 q0_2 q0_2l q0_2c q1_0 q1_1 q1_2 q1_2l q1_2c w _ ?_
 unfold S_k_SameMatrix
 unfold T_k_SameMatrix at hx
 have h := hx
 clear hx
 try dsimp only
 refine newM_s hS ?_; clear hS; intro r1 w hS
 refine newM_s hS ?_; clear hS; intro r2 w hS
 refine ⟨_, (hS.cel mp1 rfl), ?_⟩
 refine ⟨_, (hS.cel mp0 rfl), ?_⟩
 refine cond_s h ?_ ?_ <;> clear h <;> intro hc h
 ·
  refine ⟨_, (hS.cel mp1 rfl), ?_⟩
  refine ⟨_, (hS.cel mp0 rfl), ?_⟩
  refine cond_s h ?_ ?_ <;> clear h <;> intro hc h
  ·
   refine ⟨_, _, _, (hS.cel mp1 rfl), ?_⟩
   refine ⟨_, _, _, (hS.cel mp0 rfl), ?_⟩
   replace h := bnd h
   obtain ⟨t1, ht1, h⟩ := h
   refine wk_k_SameReals H hS (hq0_2.mono tl2) (hq1_2.mono tl2) ht1 ?_; clear hS ht1; rintro w hS
   refine ⟨_, rfl, ?_⟩
   have h := some_inj h
   cases h
   exact hK _ (hS.pick (A := [_, _]) [] rfl)
  ·
   have h := some_inj h
   cases h
   exact hK _ (hS.pick (A := [_, _]) [] rfl)
 ·
  have h := some_inj h
  cases h
  exact hK _ (hS.pick (A := [_, _]) [] rfl)
theorem wk_w12_awake  {u0 : Bool} (hS : Ho w0 w (L))  (hx : T_w12_awake  = some u0) (hK : ∀  (w1 : World), Ho w0 w1 (L) → K (.bool u0) w1) : CallsX P N.f_w12_awake #[] w K := by
 refine H.w12_awake  w _ ?_
 unfold S_w12_awake
 unfold T_w12_awake at hx
 have h := hx
 clear hx
 try dsimp only
 replace h := bnd h
 obtain ⟨t1, ht1, h⟩ := h
 obtain rfl : (List.map nf ([4616189618054758400, 4611686018427387904, 4611686018427387904, 4617315517961601024] : List Nat)) = t1 := some_inj ht1
 clear ht1
 refine lit_s (ks := [4616189618054758400, 4611686018427387904, 4611686018427387904, 4617315517961601024]) (enc := (Value.float .f64)) (m := 4) hS rfl rfl ?_; clear hS; intro r1 w hS
 refine newM_s hS ?_; clear hS; intro r2 w hS
 refine stc_s hS rfl rfl ?_; clear hS; intro w hS
 refine stc_s hS rfl rfl ?_; clear hS; intro w hS
 refine stc_s hS rfl rfl ?_; clear hS; intro w hS
 refine ⟨_, (hS.cel mp0 rfl), ?_⟩
 refine ⟨_, (hS.cel mp0 rfl), ?_⟩
 refine ⟨_, _, _, (hS.cel mp0 rfl), ?_⟩
 replace h := bnd h
 obtain ⟨⟨t2, t3, t4, t5, t6⟩, ho2, h⟩ := h
 refine wk_lower_Factor H hS (Ent.sl mp1) ho2 ?_; clear hS ho2; rintro a3 m3 c3 ws3 a4 m4 c4 ws4 w rfl rfl hS
 refine ⟨_, _, _, _, _, _, _, _, _, rfl, ?_⟩
 refine newM_s hS ?_; clear hS; intro r5 w hS
 refine stc_s hS rfl rfl ?_; clear hS; intro w hS
 refine stc_s hS rfl rfl ?_; clear hS; intro w hS
 refine stc_s hS rfl rfl ?_; clear hS; intro w hS
 refine ⟨_, (hS.cel mp0 rfl), ?_⟩
 refine ⟨_, _, _, (hS.cel mp0 rfl), ?_⟩
 refine ⟨_, _, _, (hS.cel mp0 rfl), ?_⟩
 replace h := bnd h
 obtain ⟨⟨t7, t8, t9, t10⟩, ho7, h⟩ := h
 refine wk_lower_Times H hS (Ent.sl mp1) (Ent.sl mp2) ho7 ?_; clear hS ho7; rintro a6 m6 c6 ws6 w rfl hS
 refine ⟨_, _, _, _, _, _, rfl, ?_⟩
 refine newM_s hS ?_; clear hS; intro r7 w hS
 refine stc_s hS rfl rfl ?_; clear hS; intro w hS
 refine stc_s hS rfl rfl ?_; clear hS; intro w hS
 refine stc_s hS rfl rfl ?_; clear hS; intro w hS
 replace h := bnd h
 obtain ⟨t11, ht11, h⟩ := h
 obtain rfl : (List.map nf ([4616189618054758400, 4611686018427387904, 4611686018427387904, 4607182418800017408] : List Nat)) = t11 := some_inj ht11
 clear ht11
 refine lit_s (ks := [4616189618054758400, 4611686018427387904, 4611686018427387904, 4607182418800017408]) (enc := (Value.float .f64)) (m := 4) hS rfl rfl ?_; clear hS; intro r8 w hS
 replace h := bnd h
 obtain ⟨⟨t12, t13, t14, t15, t16⟩, ho12, h⟩ := h
 refine wk_lower_Factor H hS (Ent.sl mp0) ho12 ?_; clear hS ho12; rintro a9 m9 c9 ws9 a10 m10 c10 ws10 w rfl rfl hS
 refine ⟨_, _, _, _, _, _, _, _, _, rfl, ?_⟩
 refine newM_s hS ?_; clear hS; intro r11 w hS
 refine stc_s hS rfl rfl ?_; clear hS; intro w hS
 refine stc_s hS rfl rfl ?_; clear hS; intro w hS
 refine stc_s hS rfl rfl ?_; clear hS; intro w hS
 refine cond_s h ?_ ?_ <;> clear h <;> intro hc h
 ·
  refine cond_s h ?_ ?_ <;> clear h <;> intro hc h
  ·
   refine ⟨_, (hS.cel mp6 rfl), ?_⟩
   refine ⟨_, _, _, (hS.cel mp6 rfl), ?_⟩
   refine ⟨_, _, _, (hS.cel mp6 rfl), ?_⟩
   replace h := bnd h
   obtain ⟨t17, ht17, h⟩ := h
   obtain rfl : (List.map nf ([4602678819172646912] : List Nat)) = t17 := some_inj ht17
   clear ht17
   refine lit_s (ks := [4602678819172646912]) (enc := (Value.float .f64)) (m := 1) hS rfl rfl ?_; clear hS; intro r12 w hS
   replace h := bnd h
   obtain ⟨t18, ht18, h⟩ := h
   obtain rfl : (List.map nf ([4616189618054758400, 4616189618054758400] : List Nat)) = t18 := some_inj ht18
   clear ht18
   refine lit_s (ks := [4616189618054758400, 4616189618054758400]) (enc := (Value.float .f64)) (m := 2) hS rfl rfl ?_; clear hS; intro r13 w hS
   replace h := bnd h
   obtain ⟨t19, ht19, h⟩ := h
   refine wk_k_SameFactor H hS (Ent.sl mp9) (Ent.sl mp10) (Ent.sl mp1) (Ent.sl mp0) ht19 ?_; clear hS ht19; rintro w hS
   refine ⟨_, rfl, ?_⟩
   refine cond_s h ?_ ?_ <;> clear h <;> intro hc h
   ·
    refine cond_s h ?_ ?_ <;> clear h <;> intro hc h
    ·
     refine ⟨_, (hS.cel mp6 rfl), ?_⟩
     refine ⟨_, (hS.cel mp6 rfl), ?_⟩
     refine ⟨_, _, _, (hS.cel mp6 rfl), ?_⟩
     refine ⟨_, (hS.cel mp11 rfl), ?_⟩
     refine ⟨_, (hS.cel mp11 rfl), ?_⟩
     refine ⟨_, _, _, (hS.cel mp11 rfl), ?_⟩
     replace h := bnd h
     obtain ⟨t20, ht20, h⟩ := h
     refine wk_k_SameMatrix H hS (Ent.sl mp7) (Ent.sl mp12) ht20 ?_; clear hS ht20; rintro w hS
     refine ⟨_, rfl, ?_⟩
     refine cond_s h ?_ ?_ <;> clear h <;> intro hc h
     ·
      refine cond_s h ?_ ?_ <;> clear h <;> intro hc h
      ·
       have h := some_inj h
       cases h
       exact hK _ (hS.pick (A := [_, _, _, _, _, _, _, _, _, _, _, _, _]) [] rfl)
      ·
       have h := some_inj h
       cases h
       exact hK _ (hS.pick (A := [_, _, _, _, _, _, _, _, _, _, _, _, _]) [] rfl)
     ·
      have h := some_inj h
      cases h
      exact hK _ (hS.pick (A := [_, _, _, _, _, _, _, _, _, _, _, _, _]) [] rfl)
    ·
     have h := some_inj h
     cases h
     exact hK _ (hS.pick (A := [_, _, _, _, _, _, _, _, _, _, _, _, _]) [] rfl)
   ·
    have h := some_inj h
    cases h
    exact hK _ (hS.pick (A := [_, _, _, _, _, _, _, _, _, _, _, _, _]) [] rfl)
  ·
   have h := some_inj h
   cases h
   exact hK _ (hS.pick (A := [_, _, _, _, _, _, _, _, _, _, _]) [] rfl)
 ·
  have h := some_inj h
  cases h
  exact hK _ (hS.pick (A := [_, _, _, _, _, _, _, _, _, _, _]) [] rfl)
theorem wk_w12_LowerNumbers  {u0 : Bool} (hS : Ho w0 w (L))  (hx : T_w12_LowerNumbers  = some u0) (hK : ∀  (w1 : World), Ho w0 w1 (L) → K (.bool u0) w1) : CallsX P N.f_w12_LowerNumbers #[] w K := by
 refine H.w12_LowerNumbers  w _ ?_
 unfold S_w12_LowerNumbers
 unfold T_w12_LowerNumbers at hx
 have h := hx
 clear hx
 try dsimp only
 replace h := bnd h
 obtain ⟨o1, h1, c1⟩ := h
 refine cutM_i (fun s w =>  .inl () = o1 ∧ s = (()) ∧ Ho w0 w (L)) (fun J1 hJ1 => ?_) ?_
 ·
  have h := h1
  clear h1
  refine iter_sim (fun s w t => ∃ (t1 : Int), t1 = t ∧ s = (t1, ()) ∧ Ho w0 w (L)) ?_ h ⟨_, rfl, rfl, hS⟩
  clear h hS
  rintro s w t X q ⟨t1, rfl, rfl, hS⟩ h hX hO
  unfold T_w12_LowerNumbers_b5 at h
  try dsimp only
  refine cond_s h ?_ ?_ <;> clear h <;> intro hc h
  ·
   replace h := bnd h
   obtain ⟨t2, ht2, h⟩ := h
   obtain ⟨rfl, kt2⟩ := mkF ht2
   clear ht2
   refine mk_s (enc := (Value.float .f64)) hS kt2 rfl ?_; clear hS kt2; intro r2 w hS
   refine newM_s hS ?_; clear hS; intro r3 w hS
   refine stc_s hS rfl rfl ?_; clear hS; intro w hS
   refine stc_s hS rfl rfl ?_; clear hS; intro w hS
   refine stc_s hS rfl rfl ?_; clear hS; intro w hS
   replace h := bnd h
   obtain ⟨o5, h5, c5⟩ := h
   refine cutM_i (fun s w => ∃ (ws4 : List Nat), (List.map nf ws4) = o5 ∧ s = (()) ∧ Ho w0 w ((cl r3 [.int .i64 t1, .int .i64 t1, .slice (some ⟨r2, 0, none⟩) (((IntKind.i64.wrap (t1 * t1))).toNat) (((IntKind.i64.wrap (t1 * t1))).toNat)] N.t_Matrix) :: (sl (some ⟨r2, 0, none⟩) (((IntKind.i64.wrap (t1 * t1))).toNat) (((IntKind.i64.wrap (t1 * t1))).toNat) (List.map (Value.float .f64) ws4) N.t_float64) :: L)) (fun J5 hJ5 => ?_) ?_
   ·
    have h := h5
    clear h5
    refine iter_sim (fun s w t => ∃ (t4 : Int) (ws6 : List Nat), (t4, (List.map nf ws6)) = t ∧ s = (t4, ()) ∧ Ho w0 w ((cl r3 [.int .i64 t1, .int .i64 t1, .slice (some ⟨r2, 0, none⟩) (((IntKind.i64.wrap (t1 * t1))).toNat) (((IntKind.i64.wrap (t1 * t1))).toNat)] N.t_Matrix) :: (sl (some ⟨r2, 0, none⟩) (((IntKind.i64.wrap (t1 * t1))).toNat) (((IntKind.i64.wrap (t1 * t1))).toNat) (List.map (Value.float .f64) ws6) N.t_float64) :: L)) ?_ h ⟨_, _, rfl, rfl, hS⟩
    clear h hS
    rintro s w t X q ⟨t4, ws6, rfl, rfl, hS⟩ h hX hO
    unfold T_w12_LowerNumbers_b7 at h
    try dsimp only
    refine cond_s h ?_ ?_ <;> clear h <;> intro hc h
    ·
     refine ⟨_, _, _, (hS.cel mp0 rfl), ?_⟩
     replace h := bnd h
     obtain ⟨t6, ht6, h⟩ := h
     obtain ⟨z7, rfl, q8x, q8l, q8r⟩ := atF ht6
     clear ht6
     refine idx_s ((Ent.sl mp1).now (fun _ h => h) hS) q8x q8l q8r ?_; intro b9 hb9
     replace hS := ro1 hS
     replace h := bnd h
     obtain ⟨t7, ht7, h⟩ := h
     obtain rfl := setF ht7
     clear ht7
     refine sto_s hS hb9 q8r ?_; clear hS; intro w hS
     obtain rfl := some_inj h
     exact hX _ rfl _ _ ⟨_, _, rfl, rfl, (hS.pick (A := [_, _]) [1, 0] rfl)⟩
    ·
     obtain rfl := some_inj h
     have h := congrArg some (hO _ rfl)
     obtain rfl := some_inj h
     exact hJ5 _ _ ⟨_, rfl, rfl, hS⟩
   ·
    clear h5 hS
    rintro s w ⟨ws4, rfl, rfl, hS⟩
    have h := c5
    clear c5
    try dsimp only
    refine ⟨_, (hS.cel mp0 rfl), ?_⟩
    refine ⟨_, (hS.cel mp0 rfl), ?_⟩
    refine ⟨_, _, _, (hS.cel mp0 rfl), ?_⟩
    replace h := bnd h
    obtain ⟨⟨t8, t9, t10, t11, t12⟩, ho8, h⟩ := h
    refine wk_lower_Factor H hS (Ent.sl mp1) ho8 ?_; clear hS ho8; rintro a10 m10 c10 ws10 a11 m11 c11 ws11 w rfl rfl hS
    refine ⟨_, _, _, _, _, _, _, _, _, rfl, ?_⟩
    refine newM_s hS ?_; clear hS; intro r12 w hS
    refine stc_s hS rfl rfl ?_; clear hS; intro w hS
    refine stc_s hS rfl rfl ?_; clear hS; intro w hS
    refine stc_s hS rfl rfl ?_; clear hS; intro w hS
    replace h := bnd h
    obtain ⟨o13, h13, c13⟩ := h
    refine cutM_i (fun s w => ∃ (t13 : Bool), t13 = o13 ∧ s = (t13, ()) ∧ Ho w0 w (L)) (fun J13 hJ13 => ?_) ?_
    ·
     have h := h13
     clear h13
     refine cond_s h ?_ ?_ <;> clear h <;> intro hc h
     ·
      refine cond_s h ?_ ?_ <;> clear h <;> intro hc h
      ·
       refine cond_s h ?_ ?_ <;> clear h <;> intro hc h
       ·
        refine ⟨_, (hS.cel mp0 rfl), ?_⟩
        refine cond_s h ?_ ?_ <;> clear h <;> intro hc h
        ·
         refine ⟨_, (hS.cel mp0 rfl), ?_⟩
         refine ⟨_, _, _, (hS.cel mp0 rfl), ?_⟩
         refine ⟨_, _, _, (hS.cel mp0 rfl), ?_⟩
         replace h := bnd h
         obtain ⟨t14, ht14, h⟩ := h
         refine wk_lower_Right H hS (Ent.sl mp1) (Ent.sl mp2) ht14 ?_; clear hS ht14; rintro w hS
         refine ⟨_, rfl, ?_⟩
         obtain rfl := some_inj h
         exact hJ13 _ _ ⟨_, rfl, rfl, (hS.pick (A := [_, _, _, _, _]) [] rfl)⟩
        ·
         obtain rfl := some_inj h
         exact hJ13 _ _ ⟨_, rfl, rfl, (hS.pick (A := [_, _, _, _, _]) [] rfl)⟩
       ·
        obtain rfl := some_inj h
        exact hJ13 _ _ ⟨_, rfl, rfl, (hS.pick (A := [_, _, _, _, _]) [] rfl)⟩
      ·
       obtain rfl := some_inj h
       exact hJ13 _ _ ⟨_, rfl, rfl, (hS.pick (A := [_, _, _, _, _]) [] rfl)⟩
     ·
      obtain rfl := some_inj h
      exact hJ13 _ _ ⟨_, rfl, rfl, (hS.pick (A := [_, _, _, _, _]) [] rfl)⟩
    ·
     clear h13 hS
     rintro s w ⟨t13, rfl, rfl, hS⟩
     have h := c13
     clear c13
     try dsimp only
     refine cond_s h ?_ ?_ <;> clear h <;> intro hc h
     ·
      obtain rfl := some_inj h
      have h := congrArg some (hO _ rfl)
      obtain rfl := some_inj h
      have h := c1
      have h := some_inj h
      cases h
      exact hK _ hS
     ·
      refine ⟨by decide, ?_⟩
      replace h := bnd h
      obtain ⟨t15, ht15, h⟩ := h
      replace h := bnd h
      obtain ⟨t16, ht16, h⟩ := h
      replace h := bnd h
      obtain ⟨t17, ht17, h⟩ := h
      refine ⟨?_, ?_⟩
      ·
       refine drM_s hS ?_; clear hS; intro w hS
       skip
       skip
       obtain ⟨rfl, kt15⟩ := mkF ht15
       clear ht15
       refine mk_s (enc := (Value.float .f64)) hS kt15 rfl ?_; clear hS kt15; intro r14 w hS
       refine drM_s hS ?_; clear hS; intro w hS
       skip
       skip
       obtain ⟨rfl, kt16⟩ := mkF ht16
       clear ht16
       refine mk_s (enc := (Value.float .f64)) hS kt16 rfl ?_; clear hS kt16; intro r15 w hS
       refine drM_s hS ?_; clear hS; intro w hS
       skip
       skip
       refine wk_lower_Right H hS (Ent.sl mp1) (Ent.sl mp0) ht17 ?_; clear hS ht17; rintro w hS
       refine ⟨_, rfl, ?_⟩
       refine drM_s hS ?_; clear hS; intro w hS
       refine cond_s h ?_ ?_ <;> clear h <;> intro hc h
       ·
        obtain rfl := some_inj h
        have h := congrArg some (hO _ rfl)
        obtain rfl := some_inj h
        have h := c1
        have h := some_inj h
        cases h
        exact hK _ (hS.pick (A := [_, _]) [] rfl)
       ·
        obtain rfl := some_inj h
        exact hX _ rfl _ _ ⟨_, rfl, rfl, (hS.pick (A := [_, _]) [] rfl)⟩
      ·
       refine drM_s hS ?_; clear hS; intro w hS
       skip
       skip
       obtain ⟨rfl, kt16⟩ := mkF ht16
       clear ht16
       refine mk_s (enc := (Value.float .f64)) hS kt16 rfl ?_; clear hS kt16; intro r16 w hS
       refine drM_s hS ?_; clear hS; intro w hS
       skip
       skip
       obtain ⟨rfl, kt15⟩ := mkF ht15
       clear ht15
       refine mk_s (enc := (Value.float .f64)) hS kt15 rfl ?_; clear hS kt15; intro r17 w hS
       refine drM_s hS ?_; clear hS; intro w hS
       skip
       skip
       refine wk_lower_Right H hS (Ent.sl mp0) (Ent.sl mp1) ht17 ?_; clear hS ht17; rintro w hS
       refine ⟨_, rfl, ?_⟩
       refine drM_s hS ?_; clear hS; intro w hS
       refine cond_s h ?_ ?_ <;> clear h <;> intro hc h
       ·
        obtain rfl := some_inj h
        have h := congrArg some (hO _ rfl)
        obtain rfl := some_inj h
        have h := c1
        have h := some_inj h
        cases h
        exact hK _ (hS.pick (A := [_, _]) [] rfl)
       ·
        obtain rfl := some_inj h
        exact hX _ rfl _ _ ⟨_, rfl, rfl, (hS.pick (A := [_, _]) [] rfl)⟩
  ·
   obtain rfl := some_inj h
   have h := congrArg some (hO _ rfl)
   obtain rfl := some_inj h
   exact hJ1 _ _ ⟨rfl, rfl, hS⟩
 ·
  clear h1 hS
  rintro s w ⟨rfl, rfl, hS⟩
  have h := c1
  clear c1
  try dsimp only
  replace h := bnd h
  obtain ⟨t18, ht18, h⟩ := h
  obtain rfl : (List.map nf ([0] : List Nat)) = t18 := some_inj ht18
  clear ht18
  refine lit_s (ks := [0]) (enc := (Value.float .f64)) (m := 1) hS rfl rfl ?_; clear hS; intro r18 w hS
  replace h := bnd h
  obtain ⟨t19, ht19, h⟩ := h
  obtain rfl : (List.map nf ([13830554455654793216] : List Nat)) = t19 := some_inj ht19
  clear ht19
  refine lit_s (ks := [13830554455654793216]) (enc := (Value.float .f64)) (m := 1) hS rfl rfl ?_; clear hS; intro r19 w hS
  replace h := bnd h
  obtain ⟨t20, ht20, h⟩ := h
  refine wk_math_Copysign H hS  ht20 ?_; clear hS ht20; rintro z20 w rfl hS
  refine ⟨_, rfl, ?_⟩
  replace h := bnd h
  obtain ⟨t21, ht21, h⟩ := h
  obtain rfl : (List.map nf ([z20] : List Nat)) = t21 := some_inj ht21
  clear ht21
  refine lit_s (ks := [z20]) (enc := (Value.float .f64)) (m := 1) hS rfl rfl ?_; clear hS; intro r21 w hS
  replace h := bnd h
  obtain ⟨t22, ht22, h⟩ := h
  obtain rfl : (List.map nf ([9218868437227405311, 9218868437227405311, 9218868437227405311, 9218868437227405311] : List Nat)) = t22 := some_inj ht22
  clear ht22
  refine lit_s (ks := [9218868437227405311, 9218868437227405311, 9218868437227405311, 9218868437227405311]) (enc := (Value.float .f64)) (m := 4) hS rfl rfl ?_; clear hS; intro r22 w hS
  replace h := bnd h
  obtain ⟨t23, ht23, h⟩ := h
  obtain rfl : (List.map nf ([4607182418800017408, 4611686018427387904, 4613937818241073152, 4616189618054758400] : List Nat)) = t23 := some_inj ht23
  clear ht23
  refine lit_s (ks := [4607182418800017408, 4611686018427387904, 4613937818241073152, 4616189618054758400]) (enc := (Value.float .f64)) (m := 4) hS rfl rfl ?_; clear hS; intro r23 w hS
  replace h := bnd h
  obtain ⟨t24, ht24, h⟩ := h
  refine wk_math_NaN H hS  ht24 ?_; clear hS ht24; rintro z24 w rfl hS
  refine ⟨_, rfl, ?_⟩
  replace h := bnd h
  obtain ⟨t25, ht25, h⟩ := h
  refine wk_math_NaN H hS  ht25 ?_; clear hS ht25; rintro z25 w rfl hS
  refine ⟨_, rfl, ?_⟩
  replace h := bnd h
  obtain ⟨t26, ht26, h⟩ := h
  obtain rfl : (List.map nf ([4607182418800017408, z24, z25, 4607182418800017408] : List Nat)) = t26 := some_inj ht26
  clear ht26
  refine lit_s (ks := [4607182418800017408, z24, z25, 4607182418800017408]) (enc := (Value.float .f64)) (m := 4) hS rfl rfl ?_; clear hS; intro r26 w hS
  replace h := bnd h
  obtain ⟨t27, ht27, h⟩ := h
  refine wk_math_Float64frombits H hS  ht27 ?_; clear hS ht27; rintro z27 w rfl hS
  refine ⟨_, rfl, ?_⟩
  replace h := bnd h
  obtain ⟨t28, ht28, h⟩ := h
  obtain rfl : (List.map nf ([z27, 9110782046170513408, 9110782046170513408, 4607182418800017408] : List Nat)) = t28 := some_inj ht28
  clear ht28
  refine lit_s (ks := [z27, 9110782046170513408, 9110782046170513408, 4607182418800017408]) (enc := (Value.float .f64)) (m := 4) hS rfl rfl ?_; clear hS; intro r28 w hS
  replace h := bnd h
  obtain ⟨t29, ht29, h⟩ := h
  refine wk_math_Inf H hS  ht29 ?_; clear hS ht29; rintro z29 w rfl hS
  refine ⟨_, rfl, ?_⟩
  replace h := bnd h
  obtain ⟨t30, ht30, h⟩ := h
  obtain rfl : (List.map nf ([z29] : List Nat)) = t30 := some_inj ht30
  clear ht30
  refine lit_s (ks := [z29]) (enc := (Value.float .f64)) (m := 1) hS rfl rfl ?_; clear hS; intro r30 w hS
  replace h := bnd h
  obtain ⟨t31, ht31, h⟩ := h
  obtain rfl : (List.map nf ([4607182418800017408, 7309342195222315008, 7309342195222315008, 4607182418800017408] : List Nat)) = t31 := some_inj ht31
  clear ht31
  refine lit_s (ks := [4607182418800017408, 7309342195222315008, 7309342195222315008, 4607182418800017408]) (enc := (Value.float .f64)) (m := 4) hS rfl rfl ?_; clear hS; intro r31 w hS
  replace h := bnd h
  obtain ⟨t32, ht32, h⟩ := h
  obtain rfl : (List.map (List.map nf) ([[0], [13830554455654793216], [z20], [9218868437227405311, 9218868437227405311, 9218868437227405311, 9218868437227405311], [4607182418800017408, 4611686018427387904, 4613937818241073152, 4616189618054758400], [4607182418800017408, z24, z25, 4607182418800017408], [z27, 9110782046170513408, 9110782046170513408, 4607182418800017408], [z29], [4607182418800017408, 7309342195222315008, 7309342195222315008, 4607182418800017408], []] : List (List Nat))) = t32 := some_inj ht32
  clear ht32
  refine lit_s (ks := ([((some ⟨r18, 0, none⟩), 1, 1), ((some ⟨r19, 0, none⟩), 1, 1), ((some ⟨r21, 0, none⟩), 1, 1), ((some ⟨r22, 0, none⟩), 4, 4), ((some ⟨r23, 0, none⟩), 4, 4), ((some ⟨r26, 0, none⟩), 4, 4), ((some ⟨r28, 0, none⟩), 4, 4), ((some ⟨r30, 0, none⟩), 1, 1), ((some ⟨r31, 0, none⟩), 4, 4), (none, 0, 0)] : List Hd)) (enc := hdV) (m := 10) hS rfl rfl ?_; clear hS; intro r32 w hS
  replace h := bnd h
  obtain ⟨t33, ht33, h⟩ := h
  obtain rfl : ([220, 220, 220, 220, 4, 5, 6, 5, 220, 0] : List Int) = t33 := some_inj ht33
  clear ht33
  refine lit_s (ks := [220, 220, 220, 220, 4, 5, 6, 5, 220, 0]) (enc := (Value.int .i64)) (m := 10) hS rfl rfl ?_; clear hS; intro r33 w hS
  replace h := bnd h
  obtain ⟨t34, ht34, h⟩ := h
  obtain rfl : ([0, 0, 0, 1, 0, 0, 0, 0, 1, 0] : List Int) = t34 := some_inj ht34
  clear ht34
  refine lit_s (ks := [0, 0, 0, 1, 0, 0, 0, 0, 1, 0]) (enc := (Value.int .i64)) (m := 10) hS rfl rfl ?_; clear hS; intro r34 w hS
  replace h := bnd h
  obtain ⟨o35, h35, c35⟩ := h
  refine cutM_i (fun s w =>  .inl () = o35 ∧ s = (()) ∧ Ho w0 w (L)) (fun J35 hJ35 => ?_) ?_
  ·
   have h := h35
   clear h35
   refine iter_sim (fun s w t => ∃ (t35 : Int), t35 = t ∧ s = (t35, ()) ∧ Ho w0 w ((sl (some ⟨r34, 0, none⟩) 10 10 (List.map (Value.int .i64) ([0, 0, 0, 1, 0, 0, 0, 0, 1, 0])) N.t_int) :: (sl (some ⟨r33, 0, none⟩) 10 10 (List.map (Value.int .i64) ([220, 220, 220, 220, 4, 5, 6, 5, 220, 0])) N.t_int) :: (sl (some ⟨r32, 0, none⟩) 10 10 (List.map hdV ([((some ⟨r18, 0, none⟩), 1, 1), ((some ⟨r19, 0, none⟩), 1, 1), ((some ⟨r21, 0, none⟩), 1, 1), ((some ⟨r22, 0, none⟩), 4, 4), ((some ⟨r23, 0, none⟩), 4, 4), ((some ⟨r26, 0, none⟩), 4, 4), ((some ⟨r28, 0, none⟩), 4, 4), ((some ⟨r30, 0, none⟩), 1, 1), ((some ⟨r31, 0, none⟩), 4, 4), (none, 0, 0)] : List Hd)) N.t_L_float64) :: (sl (some ⟨r31, 0, none⟩) 4 4 (List.map (Value.float .f64) ([4607182418800017408, 7309342195222315008, 7309342195222315008, 4607182418800017408])) N.t_float64) :: (sl (some ⟨r30, 0, none⟩) 1 1 (List.map (Value.float .f64) ([z29])) N.t_float64) :: (sl (some ⟨r28, 0, none⟩) 4 4 (List.map (Value.float .f64) ([z27, 9110782046170513408, 9110782046170513408, 4607182418800017408])) N.t_float64) :: (sl (some ⟨r26, 0, none⟩) 4 4 (List.map (Value.float .f64) ([4607182418800017408, z24, z25, 4607182418800017408])) N.t_float64) :: (sl (some ⟨r23, 0, none⟩) 4 4 (List.map (Value.float .f64) ([4607182418800017408, 4611686018427387904, 4613937818241073152, 4616189618054758400])) N.t_float64) :: (sl (some ⟨r22, 0, none⟩) 4 4 (List.map (Value.float .f64) ([9218868437227405311, 9218868437227405311, 9218868437227405311, 9218868437227405311])) N.t_float64) :: (sl (some ⟨r21, 0, none⟩) 1 1 (List.map (Value.float .f64) ([z20])) N.t_float64) :: (sl (some ⟨r19, 0, none⟩) 1 1 (List.map (Value.float .f64) ([13830554455654793216])) N.t_float64) :: (sl (some ⟨r18, 0, none⟩) 1 1 (List.map (Value.float .f64) ([0])) N.t_float64) :: L)) ?_ h ⟨_, rfl, rfl, hS⟩
   clear h hS
   rintro s w t X q ⟨t35, rfl, rfl, hS⟩ h hX hO
   unfold T_w12_LowerNumbers_b9 at h
   try dsimp only
   replace h := bnd h
   obtain ⟨t36, ht36, h⟩ := h
   obtain rfl := lenLF (L := ((sl (some ⟨r18, 0, none⟩) 1 1 (List.map (Value.float .f64) ([0])) N.t_float64) :: (sl (some ⟨r19, 0, none⟩) 1 1 (List.map (Value.float .f64) ([13830554455654793216])) N.t_float64) :: (sl (some ⟨r21, 0, none⟩) 1 1 (List.map (Value.float .f64) ([z20])) N.t_float64) :: (sl (some ⟨r22, 0, none⟩) 4 4 (List.map (Value.float .f64) ([9218868437227405311, 9218868437227405311, 9218868437227405311, 9218868437227405311])) N.t_float64) :: (sl (some ⟨r23, 0, none⟩) 4 4 (List.map (Value.float .f64) ([4607182418800017408, 4611686018427387904, 4613937818241073152, 4616189618054758400])) N.t_float64) :: (sl (some ⟨r26, 0, none⟩) 4 4 (List.map (Value.float .f64) ([4607182418800017408, z24, z25, 4607182418800017408])) N.t_float64) :: (sl (some ⟨r28, 0, none⟩) 4 4 (List.map (Value.float .f64) ([z27, 9110782046170513408, 9110782046170513408, 4607182418800017408])) N.t_float64) :: (sl (some ⟨r30, 0, none⟩) 1 1 (List.map (Value.float .f64) ([z29])) N.t_float64) :: (sl (some ⟨r31, 0, none⟩) 4 4 (List.map (Value.float .f64) ([4607182418800017408, 7309342195222315008, 7309342195222315008, 4607182418800017408])) N.t_float64) :: L)) (enc := (Value.float .f64)) ht36 (.cons (Ent.sl mp0) (.cons (Ent.sl mp1) (.cons (Ent.sl mp2) (.cons (Ent.sl mp3) (.cons (Ent.sl mp4) (.cons (Ent.sl mp5) (.cons (Ent.sl mp6) (.cons (Ent.sl mp7) (.cons (Ent.sl mp8) (.cons (Ent.nil _) .nil)))))))))) ((Ent.sl mp2).now (fun _ h => h) hS)
   clear ht36
   refine cond_s h ?_ ?_ <;> clear h <;> intro hc h
   ·
    replace h := bnd h
    obtain ⟨t37, ht37, h⟩ := h
    obtain ⟨lq36, gq36, rfl, q36x, q36l, q36r, q36e⟩ := Alls.atF (L := ((sl (some ⟨r18, 0, none⟩) 1 1 (List.map (Value.float .f64) ([0])) N.t_float64) :: (sl (some ⟨r19, 0, none⟩) 1 1 (List.map (Value.float .f64) ([13830554455654793216])) N.t_float64) :: (sl (some ⟨r21, 0, none⟩) 1 1 (List.map (Value.float .f64) ([z20])) N.t_float64) :: (sl (some ⟨r22, 0, none⟩) 4 4 (List.map (Value.float .f64) ([9218868437227405311, 9218868437227405311, 9218868437227405311, 9218868437227405311])) N.t_float64) :: (sl (some ⟨r23, 0, none⟩) 4 4 (List.map (Value.float .f64) ([4607182418800017408, 4611686018427387904, 4613937818241073152, 4616189618054758400])) N.t_float64) :: (sl (some ⟨r26, 0, none⟩) 4 4 (List.map (Value.float .f64) ([4607182418800017408, z24, z25, 4607182418800017408])) N.t_float64) :: (sl (some ⟨r28, 0, none⟩) 4 4 (List.map (Value.float .f64) ([z27, 9110782046170513408, 9110782046170513408, 4607182418800017408])) N.t_float64) :: (sl (some ⟨r30, 0, none⟩) 1 1 (List.map (Value.float .f64) ([z29])) N.t_float64) :: (sl (some ⟨r31, 0, none⟩) 4 4 (List.map (Value.float .f64) ([4607182418800017408, 7309342195222315008, 7309342195222315008, 4607182418800017408])) N.t_float64) :: L)) (enc := (Value.float .f64)) (X := ([[0], [13830554455654793216], [z20], [9218868437227405311, 9218868437227405311, 9218868437227405311, 9218868437227405311], [4607182418800017408, 4611686018427387904, 4613937818241073152, 4616189618054758400], [4607182418800017408, z24, z25, 4607182418800017408], [z27, 9110782046170513408, 9110782046170513408, 4607182418800017408], [z29], [4607182418800017408, 7309342195222315008, 7309342195222315008, 4607182418800017408], []] : List (List Nat))) (H := ([((some ⟨r18, 0, none⟩), 1, 1), ((some ⟨r19, 0, none⟩), 1, 1), ((some ⟨r21, 0, none⟩), 1, 1), ((some ⟨r22, 0, none⟩), 4, 4), ((some ⟨r23, 0, none⟩), 4, 4), ((some ⟨r26, 0, none⟩), 4, 4), ((some ⟨r28, 0, none⟩), 4, 4), ((some ⟨r30, 0, none⟩), 1, 1), ((some ⟨r31, 0, none⟩), 4, 4), (none, 0, 0)] : List Hd)) (.cons (Ent.sl mp0) (.cons (Ent.sl mp1) (.cons (Ent.sl mp2) (.cons (Ent.sl mp3) (.cons (Ent.sl mp4) (.cons (Ent.sl mp5) (.cons (Ent.sl mp6) (.cons (Ent.sl mp7) (.cons (Ent.sl mp8) (.cons (Ent.nil _) .nil)))))))))) ht37
    clear ht37
    refine idy_s ((Ent.sl mp2).now (fun _ h => h) hS) q36x q36l q36r ?_
    refine ⟨_, _, _, rdL_get ((Ent.sl mp2).now (fun _ h => h) hS) rfl q36x, ?_⟩
    replace h := bnd h
    obtain ⟨t38, ht38, h⟩ := h
    obtain rfl := lenF ht38 ((q36e.mono (incl_cons mp11 (incl_cons mp10 (incl_cons mp9 (incl_cons mp8 (incl_cons mp7 (incl_cons mp6 (incl_cons mp5 (incl_cons mp4 (incl_cons mp3 tl12)))))))))).now (fun _ h => h) hS)
    clear ht38
    replace h := bnd h
    obtain ⟨t39, ht39, h⟩ := h
    obtain ⟨lq38, gq38, rfl, q38x, q38l, q38r, q38e⟩ := Alls.atF (L := ((sl (some ⟨r18, 0, none⟩) 1 1 (List.map (Value.float .f64) ([0])) N.t_float64) :: (sl (some ⟨r19, 0, none⟩) 1 1 (List.map (Value.float .f64) ([13830554455654793216])) N.t_float64) :: (sl (some ⟨r21, 0, none⟩) 1 1 (List.map (Value.float .f64) ([z20])) N.t_float64) :: (sl (some ⟨r22, 0, none⟩) 4 4 (List.map (Value.float .f64) ([9218868437227405311, 9218868437227405311, 9218868437227405311, 9218868437227405311])) N.t_float64) :: (sl (some ⟨r23, 0, none⟩) 4 4 (List.map (Value.float .f64) ([4607182418800017408, 4611686018427387904, 4613937818241073152, 4616189618054758400])) N.t_float64) :: (sl (some ⟨r26, 0, none⟩) 4 4 (List.map (Value.float .f64) ([4607182418800017408, z24, z25, 4607182418800017408])) N.t_float64) :: (sl (some ⟨r28, 0, none⟩) 4 4 (List.map (Value.float .f64) ([z27, 9110782046170513408, 9110782046170513408, 4607182418800017408])) N.t_float64) :: (sl (some ⟨r30, 0, none⟩) 1 1 (List.map (Value.float .f64) ([z29])) N.t_float64) :: (sl (some ⟨r31, 0, none⟩) 4 4 (List.map (Value.float .f64) ([4607182418800017408, 7309342195222315008, 7309342195222315008, 4607182418800017408])) N.t_float64) :: L)) (enc := (Value.float .f64)) (X := ([[0], [13830554455654793216], [z20], [9218868437227405311, 9218868437227405311, 9218868437227405311, 9218868437227405311], [4607182418800017408, 4611686018427387904, 4613937818241073152, 4616189618054758400], [4607182418800017408, z24, z25, 4607182418800017408], [z27, 9110782046170513408, 9110782046170513408, 4607182418800017408], [z29], [4607182418800017408, 7309342195222315008, 7309342195222315008, 4607182418800017408], []] : List (List Nat))) (H := ([((some ⟨r18, 0, none⟩), 1, 1), ((some ⟨r19, 0, none⟩), 1, 1), ((some ⟨r21, 0, none⟩), 1, 1), ((some ⟨r22, 0, none⟩), 4, 4), ((some ⟨r23, 0, none⟩), 4, 4), ((some ⟨r26, 0, none⟩), 4, 4), ((some ⟨r28, 0, none⟩), 4, 4), ((some ⟨r30, 0, none⟩), 1, 1), ((some ⟨r31, 0, none⟩), 4, 4), (none, 0, 0)] : List Hd)) (.cons (Ent.sl mp0) (.cons (Ent.sl mp1) (.cons (Ent.sl mp2) (.cons (Ent.sl mp3) (.cons (Ent.sl mp4) (.cons (Ent.sl mp5) (.cons (Ent.sl mp6) (.cons (Ent.sl mp7) (.cons (Ent.sl mp8) (.cons (Ent.nil _) .nil)))))))))) ht39
    clear ht39
    refine idy_s ((Ent.sl mp2).now (fun _ h => h) hS) q38x q38l q38r ?_
    refine ⟨_, _, _, rdL_get ((Ent.sl mp2).now (fun _ h => h) hS) rfl q38x, ?_⟩
    replace h := bnd h
    obtain ⟨t40, ht40, h⟩ := h
    obtain rfl := lenF ht40 ((q38e.mono (incl_cons mp11 (incl_cons mp10 (incl_cons mp9 (incl_cons mp8 (incl_cons mp7 (incl_cons mp6 (incl_cons mp5 (incl_cons mp4 (incl_cons mp3 tl12)))))))))).now (fun _ h => h) hS)
    clear ht40
    replace h := bnd h
    obtain ⟨o40, h40, c40⟩ := h
    refine cutM_i (fun s w => ∃ (t41 : Int), t41 = o40 ∧ s = (t41, ()) ∧ Ho w0 w ((sl (some ⟨r34, 0, none⟩) 10 10 (List.map (Value.int .i64) ([0, 0, 0, 1, 0, 0, 0, 0, 1, 0])) N.t_int) :: (sl (some ⟨r33, 0, none⟩) 10 10 (List.map (Value.int .i64) ([220, 220, 220, 220, 4, 5, 6, 5, 220, 0])) N.t_int) :: (sl (some ⟨r32, 0, none⟩) 10 10 (List.map hdV ([((some ⟨r18, 0, none⟩), 1, 1), ((some ⟨r19, 0, none⟩), 1, 1), ((some ⟨r21, 0, none⟩), 1, 1), ((some ⟨r22, 0, none⟩), 4, 4), ((some ⟨r23, 0, none⟩), 4, 4), ((some ⟨r26, 0, none⟩), 4, 4), ((some ⟨r28, 0, none⟩), 4, 4), ((some ⟨r30, 0, none⟩), 1, 1), ((some ⟨r31, 0, none⟩), 4, 4), (none, 0, 0)] : List Hd)) N.t_L_float64) :: (sl (some ⟨r31, 0, none⟩) 4 4 (List.map (Value.float .f64) ([4607182418800017408, 7309342195222315008, 7309342195222315008, 4607182418800017408])) N.t_float64) :: (sl (some ⟨r30, 0, none⟩) 1 1 (List.map (Value.float .f64) ([z29])) N.t_float64) :: (sl (some ⟨r28, 0, none⟩) 4 4 (List.map (Value.float .f64) ([z27, 9110782046170513408, 9110782046170513408, 4607182418800017408])) N.t_float64) :: (sl (some ⟨r26, 0, none⟩) 4 4 (List.map (Value.float .f64) ([4607182418800017408, z24, z25, 4607182418800017408])) N.t_float64) :: (sl (some ⟨r23, 0, none⟩) 4 4 (List.map (Value.float .f64) ([4607182418800017408, 4611686018427387904, 4613937818241073152, 4616189618054758400])) N.t_float64) :: (sl (some ⟨r22, 0, none⟩) 4 4 (List.map (Value.float .f64) ([9218868437227405311, 9218868437227405311, 9218868437227405311, 9218868437227405311])) N.t_float64) :: (sl (some ⟨r21, 0, none⟩) 1 1 (List.map (Value.float .f64) ([z20])) N.t_float64) :: (sl (some ⟨r19, 0, none⟩) 1 1 (List.map (Value.float .f64) ([13830554455654793216])) N.t_float64) :: (sl (some ⟨r18, 0, none⟩) 1 1 (List.map (Value.float .f64) ([0])) N.t_float64) :: L)) (fun J40 hJ40 => ?_) ?_
    ·
     have h := h40
     clear h40
     refine cond_s h ?_ ?_ <;> clear h <;> intro hc h
     ·
      obtain rfl := some_inj h
      exact hJ40 _ _ ⟨_, rfl, rfl, hS⟩
     ·
      obtain rfl := some_inj h
      exact hJ40 _ _ ⟨_, rfl, rfl, hS⟩
    ·
     clear h40 hS
     rintro s w ⟨t41, rfl, rfl, hS⟩
     have h := c40
     clear c40
     try dsimp only
     replace h := bnd h
     obtain ⟨t42, ht42, h⟩ := h
     obtain ⟨lq41, gq41, rfl, q41x, q41l, q41r, q41e⟩ := Alls.atF (L := ((sl (some ⟨r18, 0, none⟩) 1 1 (List.map (Value.float .f64) ([0])) N.t_float64) :: (sl (some ⟨r19, 0, none⟩) 1 1 (List.map (Value.float .f64) ([13830554455654793216])) N.t_float64) :: (sl (some ⟨r21, 0, none⟩) 1 1 (List.map (Value.float .f64) ([z20])) N.t_float64) :: (sl (some ⟨r22, 0, none⟩) 4 4 (List.map (Value.float .f64) ([9218868437227405311, 9218868437227405311, 9218868437227405311, 9218868437227405311])) N.t_float64) :: (sl (some ⟨r23, 0, none⟩) 4 4 (List.map (Value.float .f64) ([4607182418800017408, 4611686018427387904, 4613937818241073152, 4616189618054758400])) N.t_float64) :: (sl (some ⟨r26, 0, none⟩) 4 4 (List.map (Value.float .f64) ([4607182418800017408, z24, z25, 4607182418800017408])) N.t_float64) :: (sl (some ⟨r28, 0, none⟩) 4 4 (List.map (Value.float .f64) ([z27, 9110782046170513408, 9110782046170513408, 4607182418800017408])) N.t_float64) :: (sl (some ⟨r30, 0, none⟩) 1 1 (List.map (Value.float .f64) ([z29])) N.t_float64) :: (sl (some ⟨r31, 0, none⟩) 4 4 (List.map (Value.float .f64) ([4607182418800017408, 7309342195222315008, 7309342195222315008, 4607182418800017408])) N.t_float64) :: L)) (enc := (Value.float .f64)) (X := ([[0], [13830554455654793216], [z20], [9218868437227405311, 9218868437227405311, 9218868437227405311, 9218868437227405311], [4607182418800017408, 4611686018427387904, 4613937818241073152, 4616189618054758400], [4607182418800017408, z24, z25, 4607182418800017408], [z27, 9110782046170513408, 9110782046170513408, 4607182418800017408], [z29], [4607182418800017408, 7309342195222315008, 7309342195222315008, 4607182418800017408], []] : List (List Nat))) (H := ([((some ⟨r18, 0, none⟩), 1, 1), ((some ⟨r19, 0, none⟩), 1, 1), ((some ⟨r21, 0, none⟩), 1, 1), ((some ⟨r22, 0, none⟩), 4, 4), ((some ⟨r23, 0, none⟩), 4, 4), ((some ⟨r26, 0, none⟩), 4, 4), ((some ⟨r28, 0, none⟩), 4, 4), ((some ⟨r30, 0, none⟩), 1, 1), ((some ⟨r31, 0, none⟩), 4, 4), (none, 0, 0)] : List Hd)) (.cons (Ent.sl mp0) (.cons (Ent.sl mp1) (.cons (Ent.sl mp2) (.cons (Ent.sl mp3) (.cons (Ent.sl mp4) (.cons (Ent.sl mp5) (.cons (Ent.sl mp6) (.cons (Ent.sl mp7) (.cons (Ent.sl mp8) (.cons (Ent.nil _) .nil)))))))))) ht42
     clear ht42
     refine idy_s ((Ent.sl mp2).now (fun _ h => h) hS) q41x q41l q41r ?_
     refine ⟨_, _, _, rdL_get ((Ent.sl mp2).now (fun _ h => h) hS) rfl q41x, ?_⟩
     replace h := bnd h
     obtain ⟨⟨t43, t44, t45, t46, t47⟩, ho43, h⟩ := h
     refine wk_lower_Factor H hS (q41e.mono (incl_cons mp11 (incl_cons mp10 (incl_cons mp9 (incl_cons mp8 (incl_cons mp7 (incl_cons mp6 (incl_cons mp5 (incl_cons mp4 (incl_cons mp3 tl12)))))))))) ho43 ?_; clear hS ho43; rintro a43 m43 c43 ws43 a44 m44 c44 ws44 w rfl rfl hS
     refine ⟨_, _, _, _, _, _, _, _, _, rfl, ?_⟩
     refine newM_s hS ?_; clear hS; intro r45 w hS
     refine stc_s hS rfl rfl ?_; clear hS; intro w hS
     refine stc_s hS rfl rfl ?_; clear hS; intro w hS
     refine stc_s hS rfl rfl ?_; clear hS; intro w hS
     replace h := bnd h
     obtain ⟨t48, ht48, h⟩ := h
     obtain ⟨q46x, q46l, q46r⟩ := atE ht48
     clear ht48
     refine idy_s ((Ent.sl mp4).now (fun _ h => h) hS) q46x q46l q46r ?_
     refine ⟨_, rd_get ((Ent.sl mp4).now (fun _ h => h) hS) rfl q46x, ?_⟩
     refine cond_s h ?_ ?_ <;> clear h <;> intro hc h
     ·
      replace h := bnd h
      obtain ⟨t49, ht49, h⟩ := h
      obtain ⟨q48x, q48l, q48r⟩ := atE ht49
      clear ht49
      refine idy_s ((Ent.sl mp3).now (fun _ h => h) hS) q48x q48l q48r ?_
      refine ⟨_, rd_get ((Ent.sl mp3).now (fun _ h => h) hS) rfl q48x, ?_⟩
      refine cond_s h ?_ ?_ <;> clear h <;> intro hc h
      ·
       refine cond_s h ?_ ?_ <;> clear h <;> intro hc h
       ·
        refine ⟨_, (hS.cel mp0 rfl), ?_⟩
        refine cond_s h ?_ ?_ <;> clear h <;> intro hc h
        ·
         refine ⟨_, _, _, (hS.cel mp0 rfl), ?_⟩
         replace h := bnd h
         obtain ⟨t50, ht50, h⟩ := h
         obtain rfl := lenF ht50 ((Ent.sl mp1).now (fun _ h => h) hS)
         clear ht50
         refine ⟨_, _, _, (hS.cel mp0 rfl), ?_⟩
         replace h := bnd h
         obtain ⟨t51, ht51, h⟩ := h
         obtain rfl := lenF ht51 ((Ent.sl mp2).now (fun _ h => h) hS)
         clear ht51
         refine cond_s h ?_ ?_ <;> clear h <;> intro hc h
         ·
          obtain rfl := some_inj h
          have h := congrArg some (hO _ rfl)
          obtain rfl := some_inj h
          have h := c35
          have h := some_inj h
          cases h
          exact hK _ (hS.pick (A := [_, _, _, _, _, _, _, _, _, _, _, _, _, _, _]) [] rfl)
         ·
          obtain rfl := some_inj h
          exact hX _ rfl _ _ ⟨_, rfl, rfl, (hS.pick (A := [_, _, _, _, _, _, _, _, _, _, _, _, _, _, _]) [3, 3, 3, 3, 3, 3, 3, 3, 3, 3, 3, 3] rfl)⟩
        ·
         obtain rfl := some_inj h
         have h := congrArg some (hO _ rfl)
         obtain rfl := some_inj h
         have h := c35
         have h := some_inj h
         cases h
         exact hK _ (hS.pick (A := [_, _, _, _, _, _, _, _, _, _, _, _, _, _, _]) [] rfl)
       ·
        obtain rfl := some_inj h
        exact hX _ rfl _ _ ⟨_, rfl, rfl, (hS.pick (A := [_, _, _, _, _, _, _, _, _, _, _, _, _, _, _]) [3, 3, 3, 3, 3, 3, 3, 3, 3, 3, 3, 3] rfl)⟩
      ·
       obtain rfl := some_inj h
       have h := congrArg some (hO _ rfl)
       obtain rfl := some_inj h
       have h := c35
       have h := some_inj h
       cases h
       exact hK _ (hS.pick (A := [_, _, _, _, _, _, _, _, _, _, _, _, _, _, _]) [] rfl)
     ·
      obtain rfl := some_inj h
      have h := congrArg some (hO _ rfl)
      obtain rfl := some_inj h
      have h := c35
      have h := some_inj h
      cases h
      exact hK _ (hS.pick (A := [_, _, _, _, _, _, _, _, _, _, _, _, _, _, _]) [] rfl)
   ·
    obtain rfl := some_inj h
    have h := congrArg some (hO _ rfl)
    obtain rfl := some_inj h
    exact hJ35 _ _ ⟨rfl, rfl, (hS.pick (A := [_, _, _, _, _, _, _, _, _, _, _, _]) [] rfl)⟩
  ·
   clear h35 hS
   rintro s w ⟨rfl, rfl, hS⟩
   have h := c35
   clear c35
   try dsimp only
   replace h := bnd h
   obtain ⟨t52, ht52, h⟩ := h
   refine wk_lower_Right H hS (Ent.nil _) (Ent.nil _) ht52 ?_; clear hS ht52; rintro w hS
   refine ⟨_, rfl, ?_⟩
   refine cond_s h ?_ ?_ <;> clear h <;> intro hc h
   ·
    replace h := bnd h
    obtain ⟨t53, ht53, h⟩ := h
    refine wk_lower_Right H hS (Ent.nil _) (Ent.nil _) ht53 ?_; clear hS ht53; rintro w hS
    refine ⟨_, rfl, ?_⟩
    refine cond_s h ?_ ?_ <;> clear h <;> intro hc h
    ·
     replace h := bnd h
     obtain ⟨t54, ht54, h⟩ := h
     refine wk_lower_Right H hS (Ent.nil _) (Ent.nil _) ht54 ?_; clear hS ht54; rintro w hS
     refine ⟨_, rfl, ?_⟩
     refine cond_s h ?_ ?_ <;> clear h <;> intro hc h
     ·
      replace h := bnd h
      obtain ⟨t55, ht55, h⟩ := h
      obtain rfl : (List.map nf ([4607182418800017408] : List Nat)) = t55 := some_inj ht55
      clear ht55
      refine lit_s (ks := [4607182418800017408]) (enc := (Value.float .f64)) (m := 1) hS rfl rfl ?_; clear hS; intro r50 w hS
      replace h := bnd h
      obtain ⟨t56, ht56, h⟩ := h
      refine wk_lower_Right H hS (Ent.sl mp0) (Ent.nil _) ht56 ?_; clear hS ht56; rintro w hS
      refine ⟨_, rfl, ?_⟩
      refine cond_s h ?_ ?_ <;> clear h <;> intro hc h
      ·
       replace h := bnd h
       obtain ⟨t57, ht57, h⟩ := h
       refine wk_w12_awake H hS  ht57 ?_; clear hS ht57; rintro w hS
       refine ⟨_, rfl, ?_⟩
       have h := some_inj h
       cases h
       exact hK _ (hS.pick (A := [_]) [] rfl)
      ·
       have h := some_inj h
       cases h
       exact hK _ (hS.pick (A := [_]) [] rfl)
     ·
      have h := some_inj h
      cases h
      exact hK _ hS
    ·
     have h := some_inj h
     cases h
     exact hK _ hS
   ·
    have h := some_inj h
    cases h
    exact hK _ hS
end Go.Eng
