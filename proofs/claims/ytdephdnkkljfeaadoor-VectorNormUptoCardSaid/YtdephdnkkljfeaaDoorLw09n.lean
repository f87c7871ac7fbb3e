/-
  VectorNorm, the plain law: the norm is not below the exact sum of the sizes and hardly above it, and the greatest size is where it should be. No condition.
-/
import Derived.Test.YtdephdnkkljfeaaDoorUpv
import Derived.Test.YtdephdnkkljfeaaDoorDy5
import Derived.Test.YtdephdnkkljfeaaDoorPv
import Derived.Test.YtdephdnkkljfeaaDoorOf
import Derived.Test.YtdephdnkkljfeaaDoorRup
import Derived.Test.YtdephdnkkljfeaaDoorWk
import Derived.Test.YtdephdnkkljfeaaDoorLw0
import Derived.Test.YtdephdnkkljfeaaDoorRow2
set_option linter.all false
set_option maxRecDepth 100000
set_option maxHeartbeats 400000
set_option exponentiation.threshold 140000
namespace Go.Eng
open Go
theorem num_le {x : Nat} (h : isNaN x = false) : magF x ≤ 9218868437227405312 := by
  rw [isNaN_mag] at h; simp at h; omega
theorem num_nf {x : Nat} (h : isNaN x = false) : nf (magF x) = magF x := nf_fin (by have := num_le h; rw [magF_magF]; exact this)
theorem nan_nf {x : Nat} (h : isNaN x = true) : nf (magF x) = qnan := by
  unfold nf
  have : isNaN (magF x) = true := by rw [isNaN_mag] at *; rw [magF_magF]; exact h
  rw [this]; rfl
theorem fgt_good {x y : Nat} (hx : goodF x) (hy : goodF y) : fgt x y = decide (y < x) := by
  unfold fgt
  rw [order_good hx hy]
  rcases Nat.lt_trichotomy x y with c | c | c
  · rw [Nat.compare_eq_lt.2 c, decide_eq_false (by omega)]; rfl
  · rw [Nat.compare_eq_eq.2 c, decide_eq_false (by omega)]; rfl
  · rw [Nat.compare_eq_gt.2 c, decide_eq_true c]; rfl
theorem flt_good {x y : Nat} (hx : goodF x) (hy : goodF y) : flt x y = decide (x < y) := by
  unfold flt
  rw [order_good hx hy]
  rcases Nat.lt_trichotomy x y with c | c | c
  · rw [Nat.compare_eq_lt.2 c, decide_eq_true c]; rfl
  · rw [Nat.compare_eq_eq.2 c, decide_eq_false (by omega)]; rfl
  · rw [Nat.compare_eq_gt.2 c, decide_eq_false (by omega)]; rfl
theorem feq_good {x y : Nat} (hx : goodF x) (hy : goodF y) : feq x y = decide (x = y) := by
  unfold feq
  rw [order_good hx hy]
  rcases Nat.lt_trichotomy x y with c | c | c
  · rw [Nat.compare_eq_lt.2 c, decide_eq_false (by omega)]; rfl
  · rw [Nat.compare_eq_eq.2 c, decide_eq_true c]; rfl
  · rw [Nat.compare_eq_gt.2 c, decide_eq_false (by omega)]; rfl
theorem most_inv (a : List Nat) : ∀ i, ((mostN a i).1 < 0 ∧ (mostN a i).2 = 0 ∧ ∀ j, j < i → isNaN (a.getD j 0) = true) ∨
    ∃ K : Nat, K < i ∧ (mostN a i).1 = (K : Int) ∧ isNaN (a.getD K 0) = false ∧ (mostN a i).2 = magF (a.getD K 0) ∧ (∀ j, j < i → isNaN (a.getD j 0) = true ∨ magF (a.getD j 0) ≤ (mostN a i).2) ∧ ∀ j, j < K → isNaN (a.getD j 0) = true ∨ magF (a.getD j 0) < (mostN a i).2
  | 0 => .inl ⟨show (-1 : Int) < 0 by decide, rfl, fun j h => by omega⟩
  | i + 1 => by
    have e : mostN a (i + 1) = if mostC (mostN a i) (nf (magF (a.getD i 0))) then ((i : Int), nf (magF (a.getD i 0))) else mostN a i := rfl
    have ih := most_inv a i
    cases hn : isNaN (a.getD i 0) with
    | true =>
      have hc : mostC (mostN a i) (nf (magF (a.getD i 0))) = false := by
        unfold mostC
        rw [nan_nf hn, fgt_nan (by decide +kernel), feq_nan (by decide +kernel)]; simp
      rw [e, hc, if_neg (by simp)]
      rcases ih with ⟨h1, h2, h3⟩ | ⟨K, h1, h2, h3, h4, h5, h6⟩
      · refine .inl ⟨h1, h2, fun j hj => ?_⟩
        by_cases c : j = i
        · rw [c]; exact hn
        · exact h3 j (by omega)
      · refine .inr ⟨K, by omega, h2, h3, h4, fun j hj => ?_, h6⟩
        by_cases c : j = i
        · rw [c]; exact .inl hn
        · exact h5 j (by omega)
    | false =>
      have gm : goodF (magF (a.getD i 0)) := num_le hn
      rw [e, num_nf hn]
      rcases ih with ⟨h1, h2, h3⟩ | ⟨K, h1, h2, h3, h4, h5, h6⟩
      · have hc : mostC (mostN a i) (magF (a.getD i 0)) = true := by
          unfold mostC
          rw [h2, decide_eq_true h1, Bool.true_and, fgt_good gm (by unfold goodF; omega), feq_good gm (by unfold goodF; omega)]
          by_cases z : magF (a.getD i 0) = 0
          · rw [decide_eq_true z, Bool.or_true]
          · rw [decide_eq_true (show 0 < magF (a.getD i 0) by omega), Bool.true_or]
        rw [hc, if_pos rfl]
        refine .inr ⟨i, by omega, rfl, hn, rfl, fun j hj => ?_, fun j hj => .inl (h3 j hj)⟩
        by_cases c : j = i
        · rw [c]; exact .inr (Nat.le_refl _)
        · exact .inl (h3 j (by omega))
      · have gv : goodF (mostN a i).2 := by rw [h4]; exact num_le h3
        have hc : mostC (mostN a i) (magF (a.getD i 0)) = decide ((mostN a i).2 < magF (a.getD i 0)) := by
          unfold mostC
          rw [h2, decide_eq_false (by omega), Bool.false_and, Bool.or_false, fgt_good gm gv]
        rw [hc]
        by_cases g : (mostN a i).2 < magF (a.getD i 0)
        · rw [decide_eq_true g, if_pos rfl]
          refine .inr ⟨i, by omega, rfl, hn, rfl, fun j hj => ?_, fun j hj => ?_⟩
          · by_cases c : j = i
            · rw [c]; exact .inr (Nat.le_refl _)
            · rcases h5 j (by omega) with q | q
              · exact .inl q
              · exact .inr (by show _ ≤ magF (a.getD i 0); omega)
          · rcases h5 j (by omega) with q | q
            · exact .inl q
            · exact .inr (by show _ < magF (a.getD i 0); omega)
        · rw [decide_eq_false g, if_neg (by simp)]
          refine .inr ⟨K, by omega, h2, h3, h4, fun j hj => ?_, h6⟩
          by_cases c : j = i
          · rw [c]; exact .inr (by omega)
          · exact h5 j (by omega)
theorem inf_right {s : Nat} (hs : goodF s) : fadd s 9218868437227405312 = 9218868437227405312 := by
  by_cases c : s = 9218868437227405312
  · rw [c]; decide +kernel
  · rw [fadd_comm, fadd_inf (by decide) (by rw [good_mag hs]; unfold goodF at hs; omega)]; decide +kernel
theorem addV_far {s b : Nat} (hs : goodF s) (hb : b = 9218868437227405312) : addV s b 2 = 9218868437227405312 := by
  unfold addV
  rw [if_neg (by rw [hb]; rintro ⟨_, h⟩; revert h; decide), hb, inf_right hs]
theorem addV_nanr {s b : Nat} (hb : isNaN b = true) : addV s b 2 = qnan := by
  have : finF b = false := by
    rw [isNaN_mag] at hb
    have := of_decide_eq_true hb
    unfold finF; rw [decide_eq_false (by omega)]
  unfold addV
  rw [if_neg (by rw [this]; simp), fadd_nan (.inr hb)]
theorem addV_nanl {s b : Nat} (hs : isNaN s = true) : addV s b 2 = qnan := by
  have : finF s = false := by
    rw [isNaN_mag] at hs
    have := of_decide_eq_true hs
    unfold finF; rw [decide_eq_false (by omega)]
  unfold addV
  rw [if_neg (by rw [this]; simp), fadd_nan (.inl hs)]
theorem norm_nan (a : List Nat) : ∀ i, (∃ j, j < i ∧ isNaN (a.getD j 0) = true) → normN a i = qnan
  | 0, ⟨j, h, _⟩ => by omega
  | i + 1, ⟨j, hj, h⟩ => by
    show nf (addV (normN a i) (nf (magF (a.getD i 0))) 2) = qnan
    by_cases c : j = i
    · subst c
      rw [nan_nf h, addV_nanr (by decide +kernel)]; decide +kernel
    · rw [norm_nan a i ⟨j, by omega, h⟩, addV_nanl (by decide +kernel)]; decide +kernel
theorem norm_num (a : List Nat) : ∀ i, (∀ j, j < i → isNaN (a.getD j 0) = false) → goodF (normN a i) ∧ ∀ j, j < i → magF (a.getD j 0) ≤ normN a i
  | 0, _ => ⟨by unfold goodF normN; omega, fun j h => by omega⟩
  | i + 1, h => by
    obtain ⟨i1, i2⟩ := norm_num a i fun j hj => h j (by omega)
    have hi := h i (by omega)
    have e : normN a (i + 1) = nf (addV (normN a i) (magF (a.getD i 0)) 2) := by
      show nf (addV (normN a i) (nf (magF (a.getD i 0))) 2) = _
      rw [num_nf hi]
    have key : goodF (addV (normN a i) (magF (a.getD i 0)) 2) ∧ normN a i ≤ addV (normN a i) (magF (a.getD i 0)) 2 ∧ magF (a.getD i 0) ≤ addV (normN a i) (magF (a.getD i 0)) 2 := by
      have := num_le hi
      by_cases c : magF (a.getD i 0) = 9218868437227405312
      · rw [addV_far i1 c]
        unfold goodF at *
        omega
      · have hb : magF (a.getD i 0) < 9218868437227405312 := by omega
        exact ⟨addV_good i1 (by rw [magF_magF]; exact hb) (sval_mag _), addV_ge i1 hb⟩
    rw [e, nf_of_not (good_nan key.1)]
    refine ⟨key.1, fun j hj => ?_⟩
    by_cases c : j = i
    · rw [c]; exact key.2.2
    · exact Nat.le_trans (i2 j (by omega)) key.2.1
theorem take_up {l : List Nat} {i : Nat} (h : i < l.length) : l.take (i + 1) = l.take i ++ [l.getD i 0] := by
  rw [List.take_add_one, List.getElem?_eq_getElem h, List.getD_eq_getElem?_getD, List.getElem?_eq_getElem h]; rfl
theorem norm_fin {a : List Nat} (h : ∀ p ∈ a, magF p < 9218868437227405312) : ∀ i, i ≤ a.length → normN a i = sumUp (a.take i)
  | 0, _ => rfl
  | i + 1, hi => by
    have hm : a.getD i 0 ∈ a := by
      rw [List.getD_eq_getElem?_getD, List.getElem?_eq_getElem (show i < a.length by omega)]; exact List.getElem_mem _
    have hf := h _ hm
    have hg : goodF (sumUp (a.take (i + 1))) := sumUp_good fun p hp => h p (List.mem_of_mem_take hp)
    have e : sumUp (a.take (i + 1)) = addV (sumUp (a.take i)) (magF (a.getD i 0)) 2 := by
      unfold sumUp
      rw [take_up (by omega), List.foldl_append]; rfl
    show nf (addV (normN a i) (nf (magF (a.getD i 0))) 2) = _
    rw [norm_fin h i (by omega), nf_fin (x := magF (a.getD i 0)) (by rw [magF_magF]; omega), ← e, nf_of_not (good_nan hg)]
def zz (a : List Nat) : Nat → Nat
  | 0 => 0
  | i + 1 => zz a i + vmag (magF (a.getD i 0))
theorem zz_sum (a : List Nat) : ∀ i, i ≤ a.length → zz a i = sumZ (a.take i)
  | 0, _ => rfl
  | i + 1, hi => by
    unfold sumZ
    rw [take_up (by omega), List.foldl_append]
    show zz a i + _ = sumZ (a.take i) + _
    rw [zz_sum a i (by omega)]
theorem zz_le {a : List Nat} (h : ∀ p ∈ a, magF p < 9218868437227405312) : ∀ i, i ≤ a.length → zz a i ≤ i * 2 ^ 2098
  | 0, _ => by simp [zz]
  | i + 1, hi => by
    have hm : a.getD i 0 ∈ a := by
      rw [List.getD_eq_getElem?_getD, List.getElem?_eq_getElem (show i < a.length by omega)]; exact List.getElem_mem _
    have e : vmag 9218868437227405312 = 2 ^ 2098 := by decide +kernel
    have := vmag_lt (h _ hm)
    have ih := zz_le h i (by omega)
    rw [e] at this
    unfold zz
    rw [Nat.succ_mul]
    generalize 2 ^ 2098 = P at *
    omega
def Dv (s : Bool) (l : List Int) (f : Int) (k : Nat) (z : Nat) : Prop := Gd s l f ∧ nD s l f = (z : Int) * ((2 ^ k : Nat) : Int)
theorem cano_dv {z k : Nat} {e : Int} (hz : z < 2 ^ 4000) (hk : e + 65536 = k) (hk2 : k ≤ 100000) (hk3 : 40000 ≤ k) : ∃ s l f, cano (z : Int) e = (s, l, f, 0) ∧ Dv s l f k z := by
  obtain ⟨s, l, f, h1, h2, h3⟩ := cano_small (z := (z : Int)) (e := e) (Nat.le_trans (blN_le.2 (by rw [Int.natAbs_natCast]; exact hz)) (by decide)) (by omega) (by omega)
  refine ⟨s, l, f, h1, h2, ?_⟩
  rw [h3, hk, Int.toNat_natCast]
theorem add_dv {s t : Bool} {l m : List Int} {e f g : Int} {k y z : Nat} (h : Dv s l e k y) (q : Dv t m f k z) (hg : g + 65536 = k) (hk2 : k ≤ 100000) (hk3 : 40000 ≤ k) (hb : y + z < 2 ^ 4000) : ∃ u n g', T_dyad_Add s l e t m f = some (u, n, g', 0) ∧ Dv u n g' k (y + z) := by
  obtain ⟨u, n, g', m1, m2⟩ := cano_dv (z := y + z) (e := g) hb hg hk2 hk3
  refine ⟨u, n, g', ?_, m2⟩
  rw [dadd_t h.1 q.1, h.2, q.2, ← Int.add_mul, ← m1, ← cano_shift ((y + z : Nat) : Int) g k, Int.natCast_add, show g - (k : Int) = -65536 by omega]
theorem of_dv {x : Nat} (h : magF x < 9218868437227405312) : ∃ s l f, T_dyad_Of (magF x) = some (s, l, f, 0) ∧ Dv s l f 64462 (vmag (magF x)) := by
  obtain ⟨s, l, f, h1, h2, h3⟩ := of_num (x := magF x) (by rw [magF_magF]; exact h)
  refine ⟨s, l, f, h1, h2, ?_⟩
  rw [h3, good_sval (show goodF (magF x) by unfold goodF; omega)]
theorem dv_up {s : Bool} {l : List Int} {f : Int} {k j z : Nat} (h : Dv s l f (k + j) z) : Dv s l f k (z * 2 ^ j) := by
  refine ⟨h.1, ?_⟩
  rw [h.2, Nat.pow_add, Int.natCast_mul, Int.natCast_mul, Int.mul_assoc, Int.mul_comm ((2 ^ k : Nat) : Int)]
theorem scale_dv {s : Bool} {l : List Int} {e : Int} {z : Nat} (h : Dv s l e 64462 z) (hz : z < 2 ^ 4000) : ∃ t m f, T_dyad_Scale s l e (-39) = some (t, m, f, 0) ∧ Dv t m f 64423 z := by
  obtain ⟨t, m, f, c1, c2⟩ := cano_dv (z := z) (k := 64423) (e := -1113) hz (by omega) (by omega) (by omega)
  refine ⟨t, m, f, ?_, c2⟩
  have hd := h.1.ld
  have hval : cano (zD s l) (e + -39) = cano (z : Int) (-1113) := by
    have a1 := cano_shift (zD s l) (e + -39) (e + 65536).toNat
    have a2 := cano_shift (z : Int) (-1113) 64462
    have hv := h.2
    unfold nD at hv
    rw [hv, show e + -39 - ((e + 65536).toNat : Int) = -1113 - ((64462 : Nat) : Int) by omega] at a1
    rw [← a1, a2]
  unfold T_dyad_Scale
  rw [right_of h.1]
  simp only [Option.bind_some, Bool.not_true, cF]
  by_cases c : l = []
  · have z0 : zD s l = 0 := (h.1.z_zero).2 c
    have hn : cano (zD s l) (e + -39) = nilD := by rw [z0]; rfl
    rw [← c1, ← hval, hn, c]; rfl
  · have hlen : (((l.length : Nat) : Int) == 0) = false := by
      have : l.length ≠ 0 := fun h => c (List.eq_nil_of_length_eq_zero h)
      rw [beq_eq_false_iff_ne]; omega
    rw [hlen, cF, cond_t (by decide), Option.bind_some, cond_f (by decide), whole_gd h.1, Option.bind_some, wrI (n := e + -39) (by omega) (by omega), made_t (k := 16384) (by rw [zD_abs]; exact hd.2.2.2.2) (by omega), hval, c1]; rfl
theorem inf_yes : T_math_IsInf 9218868437227405312 1 = some true := by decide +kernel
theorem fin_t (x : Nat) : T_k_Finite x = some (decide (magF x < 9218868437227405312)) := by
  unfold T_k_Finite
  simp only [Option.bind_some]
  rw [nf_zero, finite_sub]
def afb (a : List Nat) : Nat → Bool
  | 0 => true
  | j + 1 => afb a j && decide (magF (a.getD j 0) < 9218868437227405312)
theorem afb_yes (a : List Nat) : ∀ i, afb a i = true → ∀ j, j < i → magF (a.getD j 0) < 9218868437227405312
  | 0, _, j, h => by omega
  | i + 1, h, j, hj => by
    unfold afb at h
    rw [Bool.and_eq_true, decide_eq_true_eq] at h
    by_cases c : j = i
    · rw [c]; exact h.2
    · exact afb_yes a i h.1 j (by omega)
theorem afb_no (a : List Nat) : ∀ i, afb a i = false → ∃ j, j < i ∧ ¬ magF (a.getD j 0) < 9218868437227405312
  | 0, h => by cases h
  | i + 1, h => by
    unfold afb at h
    rw [Bool.and_eq_false_iff, decide_eq_false_iff_not] at h
    rcases h with h | h
    · obtain ⟨j, h1, h2⟩ := afb_no a i h
      exact ⟨j, by omega, h2⟩
    · exact ⟨i, by omega, h⟩
theorem b2_step {a : List Nat} {s : Nat} {K : Nat} {v : Nat} {j : Nat} (hn : a.length ≤ 300) (hj : j < a.length) (hnum : isNaN (a.getD j 0) = false) (gv : goodF v) (hle : magF (a.getD j 0) ≤ v) (hlt : j < K → magF (a.getD j 0) < v) :
    T_w09_VectorNorm_b2 a s (K : Int) v (afb a j, (j : Int)) = some (.inl (afb a (j + 1), ((j + 1 : Nat) : Int))) := by
  have gm : goodF (magF (a.getD j 0)) := num_le hnum
  have hself : feq (a.getD j 0) (a.getD j 0) = true := by rw [feq_self, hnum]; rfl
  unfold T_w09_VectorNorm_b2
  dsimp only
  rw [Option.bind_some, cond_t (by rw [decide_eq_true_eq]; omega), at_getD 0 hj]
  simp only [Option.bind_some, hself, Bool.not_true, cF, abs_t, num_nf hnum, fgt_good gm gv, fin_t]
  rw [decide_eq_false (show ¬ v < magF (a.getD j 0) by omega), Bool.not_false, cT, decide_eq_false (show ¬ ((K : Nat) : Int) < 0 by omega), Bool.not_false, cT, wrU (by omega)]
  by_cases c : j < K
  · rw [cond_t (by rw [decide_eq_true_eq]; omega), feq_good gm gv, decide_eq_false (show ¬ magF (a.getD j 0) = v by have := hlt c; omega), cF]
    have e : afb a (j + 1) = (afb a j && decide (magF (a.getD j 0) < 9218868437227405312)) := rfl
    rw [e]
    cases afb a j <;> rfl
  · rw [cond_f (by rw [decide_eq_false_iff_not]; omega)]
    have e : afb a (j + 1) = (afb a j && decide (magF (a.getD j 0) < 9218868437227405312)) := rfl
    rw [e]
    cases afb a j <;> rfl
theorem b2_nan {a : List Nat} {s : Nat} {k : Int} {v : Nat} {j : Nat} {f : Bool} (hj : j < a.length) (hnan : isNaN (a.getD j 0) = true) (hs : isNaN s = true) (hk : k ≠ (j : Int)) :
    T_w09_VectorNorm_b2 a s k v (f, (j : Int)) = some (.inr (.inr true)) := by
  have h1 : feq (a.getD j 0) (a.getD j 0) = false := by rw [feq_self, hnan]; rfl
  have h2 : feq s s = false := by rw [feq_self, hs]; rfl
  unfold T_w09_VectorNorm_b2
  dsimp only
  rw [Option.bind_some, cond_t (by rw [decide_eq_true_eq]; omega), at_getD 0 hj]
  simp only [Option.bind_some, h1, h2, Bool.not_false, cT]
  rw [bne_iff_ne.2 hk]
theorem b2_end {a : List Nat} {s : Nat} {k : Int} {v : Nat} {f : Bool} : T_w09_VectorNorm_b2 a s k v (f, ((a.length : Nat) : Int)) = some (.inr (.inl f)) := by
  unfold T_w09_VectorNorm_b2
  dsimp only
  rw [Option.bind_some, cond_f (by rw [decide_eq_false_iff_not]; omega)]
theorem sum_loop {a : List Nat} (hn : a.length ≤ 300) (hf : ∀ p ∈ a, magF p < 9218868437227405312) : ∃ s l e, iter (T_w09_VectorNorm_b4 a) FU (0, 0, false, 0, []) = some (0, s, e, l) ∧ Dv s l e 64462 (zz a a.length) := by
  have bound : ∀ i, i ≤ a.length → zz a i < 2 ^ 4000 := fun i hi => by
    have := zz_le hf i hi
    have h2 : i * 2 ^ 2098 ≤ 300 * 2 ^ 2098 := Nat.mul_le_mul_right _ (by omega)
    have h3 : 300 * 2 ^ 2098 < 2 ^ 4000 := by decide +kernel
    exact Nat.lt_of_le_of_lt this (Nat.lt_of_le_of_lt h2 h3)
  obtain ⟨o, h1, s, l, e, rfl, h2⟩ := iter_inv (b := T_w09_VectorNorm_b4 a) (fun i st => ∃ s l e, st = (0, ((i : Nat) : Int), s, e, l) ∧ Dv s l e 64462 (zz a i)) a.length (fun o => ∃ s l e, o = (0, s, e, l) ∧ Dv s l e 64462 (zz a a.length)) (by rw [FU_eq]; omega) (by
    rintro i st hi ⟨s, l, e, rfl, hd⟩
    have hm : a.getD i 0 ∈ a := by
      rw [List.getD_eq_getElem?_getD, List.getElem?_eq_getElem hi]; exact List.getElem_mem _
    obtain ⟨t, m, f, o1, o2⟩ := of_dv (hf _ hm)
    obtain ⟨u, n, g, a1, a2⟩ := add_dv (g := -1074) hd o2 (by omega) (by omega) (by omega) (bound (i + 1) (by omega))
    refine ⟨(0, ((i + 1 : Nat) : Int), u, g, n), ?_, u, n, g, rfl, a2⟩
    unfold T_w09_VectorNorm_b4
    simp only [Option.bind_some]
    rw [cond_t (by rw [decide_eq_true_eq]; omega), Option.bind_some, cond_t (by rfl), at_getD 0 hi, Option.bind_some, abs_t, nf_fin (x := magF (a.getD i 0)) (by rw [magF_magF]; exact Nat.le_of_lt (hf _ hm)), Option.bind_some, o1, Option.bind_some]
    dsimp only
    rw [cond_t (by rfl), a1]
    simp only [Option.bind_some]
    rw [wrU (by omega)]) (by
    rintro st ⟨s, l, e, rfl, hd⟩
    refine ⟨(0, s, e, l), ?_, s, l, e, rfl, hd⟩
    unfold T_w09_VectorNorm_b4
    simp only [Option.bind_some]
    rw [cond_f (by rw [decide_eq_false_iff_not]; omega), Option.bind_some, cF]) (s0 := (0, 0, false, 0, [])) ⟨false, [], 0, rfl, .inl ⟨rfl, rfl, rfl⟩, by unfold nD zD sgN lv zz; simp⟩
  exact ⟨s, l, e, h1, h2⟩
theorem awake09 : T_w09_awake = some true := by decide +kernel
theorem dint0 : T_dyad_Int 0 = some (false, [], 0) := by decide +kernel
theorem cmpZ_le {a b : Int} (h : a ≤ b) : decide (cmpZ a b ≤ 0) = true := by
  unfold cmpZ
  split
  · decide
  · split
    · decide
    · omega
theorem near_39 {v z n : Nat} (hn : n ≤ 300) (h : 2251799813685248 * v ≤ (2251799813685248 + n) * z) : v * 2 ^ 39 ≤ z * 2 ^ 39 + z := by
  have e : (2 : Nat) ^ 39 = 549755813888 := by decide
  rw [e]
  have h1 : (2251799813685248 + n) * z ≤ (2251799813685248 + 300) * z := Nat.mul_le_mul_right _ (by omega)
  omega
theorem signbit0 {x : Nat} (h : goodF x) : T_math_Signbit x = some false := by
  rw [signbit_t (good_nan h), good_neg h]
theorem norm_goes {a : List Nat} (hn : a.length ≤ 300) : iter (T_w09_VectorNorm_b2 a (normN a a.length) (mostN a a.length).1 (mostN a a.length).2) FU (true, 0) = some (.inr true) ∨
    (iter (T_w09_VectorNorm_b2 a (normN a a.length) (mostN a a.length).1 (mostN a a.length).2) FU (true, 0) = some (.inl (afb a a.length)) ∧ ∀ j, j < a.length → isNaN (a.getD j 0) = false) := by
  rcases first_mark (fun i => isNaN (a.getD i 0)) a.length with h | ⟨i, hi, h1, h2⟩
  · refine .inr ⟨?_, h⟩
    rcases most_inv a a.length with ⟨m1, m2, m3⟩ | ⟨K, k1, k2, k3, k4, k5, k6⟩
    · have l0 : a.length = 0 := by
        rcases Nat.eq_zero_or_pos a.length with c | c
        · exact c
        · have := m3 0 c; rw [h 0 c] at this; cases this
      have e := b2_end (a := a) (s := normN a a.length) (k := (mostN a a.length).1) (v := (mostN a a.length).2) (f := true)
      rw [l0] at e
      have e : T_w09_VectorNorm_b2 a (normN a a.length) (mostN a a.length).1 (mostN a a.length).2 (true, 0) = some (.inr (.inl true)) := by rw [l0]; exact e
      rw [show FU = (FU - 1) + 1 from rfl, iter_succ, e, l0]; rfl
    · have gv : goodF (mostN a a.length).2 := by rw [k4]; exact num_le k3
      exact iter_nat (b := T_w09_VectorNorm_b2 a (normN a a.length) (mostN a a.length).1 (mostN a a.length).2) (fun j => (afb a j, ((j : Nat) : Int))) (o := .inl (afb a a.length)) a.length (by rw [FU_eq]; omega) (fun j hj => by
        have hj' := h j hj
        rw [k2]
        refine b2_step hn hj hj' gv ?_ fun c => ?_
        · rcases k5 j hj with q | q
          · rw [hj'] at q; cases q
          · exact q
        · rcases k6 j c with q | q
          · rw [hj'] at q; cases q
          · exact q) b2_end
  · have hs : isNaN (normN a a.length) = true := by rw [norm_nan a a.length ⟨i, hi, h1⟩]; decide +kernel
    have hne : (mostN a a.length).1 ≠ (i : Int) := by
      rcases most_inv a a.length with ⟨m1, m2, m3⟩ | ⟨K, k1, k2, k3, k4, k5, k6⟩
      · omega
      · intro c
        have : K = i := by omega
        subst this
        rw [h1] at k3; cases k3
    refine .inl ?_
    exact iter_nat (b := T_w09_VectorNorm_b2 a (normN a a.length) (mostN a a.length).1 (mostN a a.length).2) (fun j => (afb a j, ((j : Nat) : Int))) (o := .inr true) i (by rw [FU_eq]; omega) (fun j hj => by
      have hj' := h2 j hj
      rcases most_inv a a.length with ⟨m1, m2, m3⟩ | ⟨K, k1, k2, k3, k4, k5, k6⟩
      · have := m3 j (by omega)
        rw [hj'] at this; cases this
      · have gv : goodF (mostN a a.length).2 := by rw [k4]; exact num_le k3
        rw [k2]
        refine b2_step hn (by omega) hj' gv ?_ fun c => ?_
        · rcases k5 j (by omega) with q | q
          · rw [hj'] at q; cases q
          · exact q
        · rcases k6 j c with q | q
          · rw [hj'] at q; cases q
          · exact q) (b2_nan hi h1 hs hne)
theorem norm_none : T_w09_VectorNorm [] = some true := by decide +kernel
theorem norm09 (l0 : List Nat) : T_w09_VectorNorm l0 = some true := by
  by_cases hl0 : l0.length = 0
  · rw [List.eq_nil_of_length_eq_zero hl0]; exact norm_none
  unfold T_w09_VectorNorm
  rw [awake09]
  simp only [Option.bind_some, Bool.not_true, cF]
  obtain ⟨a, ha, hn, h0⟩ : ∃ a, (cond (decide (((l0.length : Nat) : Int) > 300)) (subL l0 0 300) (some l0)) = some a ∧ a.length ≤ 300 ∧ a.length ≠ 0 := by
    by_cases c : 300 < l0.length
    · refine ⟨(l0.drop 0).take 300, ?_, by rw [List.length_take]; omega, by rw [List.length_take, List.length_drop]; omega⟩
      rw [cond_t (by rw [decide_eq_true_eq]; omega)]
      exact sub_nat (i := 0) (j := 300) (by omega) (by omega)
    · exact ⟨l0, by rw [cond_f (by rw [decide_eq_false_iff_not]; omega)], by omega, hl0⟩
  have hb : ∀ o : Option (List Nat), (o.bind fun t4 => some t4) = o := fun o => by cases o <;> rfl
  rw [hb, ha, Option.bind_some, vnorm_t (by omega), Option.bind_some, most_t (by omega), Option.bind_some, dint0]
  simp only [Option.bind_some]
  rcases norm_goes hn with g | ⟨g, hnum⟩
  · rw [g]; rfl
  · rw [g, Option.bind_some]
    dsimp only
    obtain ⟨n1, n2⟩ := norm_num a a.length hnum
    rcases most_inv a a.length with ⟨m1, m2, m3⟩ | ⟨K, k1, k2, k3, k4, k5, k6⟩
    · have := m3 0 (by omega)
      rw [hnum 0 (by omega)] at this; cases this
    · have gv : goodF (mostN a a.length).2 := by rw [k4]; exact num_le k3
      have hv : (mostN a a.length).2 ≤ normN a a.length := by rw [k4]; exact n2 K k1
      have e29 : (flt (mostN a a.length).2 (normN a a.length) || feq (mostN a a.length).2 (normN a a.length)) = true := by
        rw [flt_good gv n1, feq_good gv n1]
        by_cases c : (mostN a a.length).2 = normN a a.length
        · rw [decide_eq_true c, Bool.or_true]
        · rw [decide_eq_true (show (mostN a a.length).2 < normN a a.length by omega), Bool.true_or]
      have e30 : feq (nf (magF (a.getD K 0))) (mostN a a.length).2 = true := by
        rw [num_nf k3, k4, feq_good (num_le k3) (num_le k3), decide_eq_true rfl]
      rw [k2]
      rw [decide_eq_false (show ¬ ((K : Nat) : Int) ≥ ((a.length : Nat) : Int) by omega), Bool.not_false, cT, decide_eq_false (show ¬ ((K : Nat) : Int) < 0 by omega)]
      have e31 : (((a.length : Nat) : Int) == 0) = false := by rw [beq_eq_false_iff_ne]; omega
      rw [e31, cond_t (by rfl), decide_eq_true (show ((K : Nat) : Int) ≥ 0 by omega), cT, at_getD 0 k1]
      simp only [Option.bind_some, abs_t, e30, e29, Bool.not_true, Bool.not_false, cT, cF]
      rw [signbit0 n1, signbit0 gv]
      simp only [Option.bind_some, Bool.not_true, Bool.not_false, cT, cF]
      cases hf : afb a a.length with
      | false =>
        rw [Bool.not_false, cT]
        obtain ⟨j, j1, j2⟩ := afb_no a a.length hf
        have e : normN a a.length = 9218868437227405312 := by
          have := num_le (hnum j j1)
          have := n2 j j1
          unfold goodF at n1
          omega
        rw [e, inf_yes]; rfl
      | true =>
        rw [Bool.not_true, cF]
        have hfin : ∀ p ∈ a, magF p < 9218868437227405312 := fun p hp => by
          obtain ⟨j, hj, rfl⟩ := List.mem_iff_getElem.1 hp
          have := afb_yes a a.length hf j hj
          rw [List.getD_eq_getElem?_getD, List.getElem?_eq_getElem hj] at this
          exact this
        obtain ⟨s, l, e, s1, s2⟩ := sum_loop hn hfin
        rw [s1, Option.bind_some]
        dsimp only
        rw [cond_f (by rfl), fin_t, Option.bind_some, good_mag n1]
        by_cases c : normN a a.length < 9218868437227405312
        · rw [decide_eq_true c, Bool.not_true, cF]
          have hz : zz a a.length ≤ 300 * 2 ^ 2098 := Nat.le_trans (zz_le hfin _ (Nat.le_refl _)) (Nat.mul_le_mul_right _ hn)
          have hz1 : zz a a.length < 2 ^ 4000 := Nat.lt_of_le_of_lt hz (by decide +kernel)
          have hz2 : zz a a.length * 2 ^ 39 + zz a a.length < 2 ^ 4000 := by
            have h3 : 300 * 2 ^ 2098 * 2 ^ 39 + 300 * 2 ^ 2098 < 2 ^ 4000 := by decide +kernel
            exact Nat.lt_of_le_of_lt (Nat.add_le_add (Nat.mul_le_mul_right _ hz) hz) h3
          obtain ⟨t, m, f, o1, o2⟩ := of_dv (x := normN a a.length) (by rw [good_mag n1]; exact c)
          rw [good_mag n1] at o1 o2
          obtain ⟨t', m', f', c1, c2⟩ := scale_dv s2 hz1
          have s2' : Dv s l e 64423 (zz a a.length * 2 ^ 39) := dv_up s2
          have o2' : Dv t m f 64423 (vmag (normN a a.length) * 2 ^ 39) := dv_up o2
          obtain ⟨u, q, r, a1, a2⟩ := add_dv (g := -1113) s2' c2 (by omega) (by omega) (by omega) hz2
          have hsum : normN a a.length = sumUp a := by rw [norm_fin hfin a.length (Nat.le_refl _), List.take_length]
          have hzz : zz a a.length = sumZ a := by rw [zz_sum a a.length (Nat.le_refl _), List.take_length]
          rcases sumUp_near hfin (by omega) with g1 | ⟨g1, g2, g3⟩
          · rw [← hsum] at g1; omega
          · rw [← hsum, ← hzz] at g2 g3
            rw [o1, Option.bind_some]
            dsimp only
            rw [c1, Option.bind_some]
            dsimp only
            rw [cond_t (by rfl), Option.bind_some, cond_f (by rfl), a1, Option.bind_some]
            dsimp only
            rw [cmp_gd s2.1 o2.1, Option.bind_some]
            dsimp only
            rw [cmp_gd o2'.1 a2.1, Option.bind_some]
            dsimp only
            rw [cond_t (by rfl), cond_t (by rfl), cond_t (by rfl), s2.2, o2.2, a2.2]
            have p1 : (0 : Int) ≤ ((2 ^ 64462 : Nat) : Int) := Int.natCast_nonneg _
            have p2 : (0 : Int) ≤ ((2 ^ 64423 : Nat) : Int) := Int.natCast_nonneg _
            have v1 : ((zz a a.length : Nat) : Int) * ((2 ^ 64462 : Nat) : Int) ≤ ((vmag (normN a a.length) : Nat) : Int) * ((2 ^ 64462 : Nat) : Int) := Int.mul_le_mul_of_nonneg_right (by omega) p1
            have v2 : ((vmag (normN a a.length) : Nat) : Int) * ((2 ^ 64462 : Nat) : Int) ≤ ((zz a a.length * 2 ^ 39 + zz a a.length : Nat) : Int) * ((2 ^ 64423 : Nat) : Int) := by
              rw [← o2.2, o2'.2]
              exact Int.mul_le_mul_of_nonneg_right (by have := near_39 hn g3; exact Int.ofNat_le.2 this) p2
            rw [cmpZ_le v1, cT, cmpZ_le v2]
        · rw [decide_eq_false c]; rfl
section
variable {N : Nums} {P : Program} (H : AllOk N P)
include H
theorem norm09_f {sa : Option Addr} {na ma : Nat} {la : List Nat} {w : World} (hA : Reals w sa na ma la) (hG : tab64 N.g_1 w) :
    CallsX P N.f_w09_VectorNorm #[.slice sa na ma] w fun v w' => v = .bool true ∧ ∃ M, St w w' M := by
  have hS := ((Ho.start w).arg own_nil hG).arg (own_cons rfl own_nil) (.ofReals hA)
  exact wk_w09_VectorNorm H hS (Ent.rd mp0) (Ent.rd mp1) (norm09 _) fun w1 h => ⟨rfl, h.some_old⟩
end
end Go.Eng
