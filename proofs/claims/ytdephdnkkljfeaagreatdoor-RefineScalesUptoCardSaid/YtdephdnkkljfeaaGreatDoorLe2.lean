/-
  Systems of whole numbers on the plain side: lists, what is left, a solution with no nought in the middle. No condition.
-/
import Derived.Test.YtdephdnkkljfeaaGreatDoorLe
import Derived.Test.YtdephdnkkljfeaaGreatDoorPf
import Derived.Test.YtdephdnkkljfeaaGreatDoorPv2
import Derived.Test.YtdephdnkkljfeaaGreatDoorWsl0
import Derived.Test.YtdephdnkkljfeaaGreatDoorWhl3
set_option linter.all false
set_option maxRecDepth 100000
set_option maxHeartbeats 400000
set_option exponentiation.threshold 140000
namespace Go.Eng
open Go
theorem whl_lt {z : Int} (h : z.natAbs < 9007199254740992) : magF (whl z) < 9218868437227405312 := (whl_wv h).1
theorem whl_val {z : Int} (h : z.natAbs < 9007199254740992) : sval (whl z) = z * ((2 ^ 1074 : Nat) : Int) := (whl_wv h).2
def whlL (g : Nat → Int) (n : Nat) : List Nat := (List.range n).map fun i => whl (g i)
theorem whlL_at {g : Nat → Int} {n i : Nat} (h : i < n) : (whlL g n).getD i 0 = whl (g i) := by simp [whlL, List.getD_eq_getElem?_getD, h]
theorem whlL_len (g : Nat → Int) (n : Nat) : (whlL g n).length = n := by simp [whlL]
theorem whlL_fin {g : Nat → Int} {n : Nat} (h : ∀ i, i < n → (g i).natAbs < 9007199254740992) : allF (whlL g n) = true :=
  allF_of fun i hi => by rw [whlL_len] at hi; rw [whlL_at hi]; exact whl_lt (h i hi)
theorem sumZ_mul (z : Nat → Int) (P : Int) : ∀ n, sumZ (fun j => z j * P) n = sumZ z n * P
  | 0 => by simp [sumZ]
  | n + 1 => by
    show sumZ (fun j => z j * P) n + z n * P = (sumZ z n + z n) * P
    rw [sumZ_mul z P n, Int.add_mul]
theorem zero_rV (K m : Int) : rV 0 K m = 0 := by
  unfold rV rF
  rw [Int.natAbs_zero, if_pos rfl]
theorem clone_e {l : List Nat} (h : l.length ≤ 4294967296) : T_slices_Clone___float64_float64 l = some l := by
  unfold T_slices_Clone___float64_float64; rw [cond_t (by simpa using h)]
theorem contains_no {d : List Nat} (hd : d.length ≤ 4096) (h : ∀ i, i < d.length → feq 0 (d.getD i 0) = false) : T_slices_Contains___float64_float64 d 0 = some false := by
  unfold T_slices_Contains___float64_float64 T_slices_Index___float64_float64
  simp only [Option.bind_some]
  have t1 := iter_nat (b := T_slices_Index___float64_float64_b2 ((d.length : Nat) : Int) d 0) (fun i => ((i : Nat) : Int)) (o := .inl ()) d.length (by rw [FU_eq]; omega) (fun i hi => by
    unfold T_slices_Index___float64_float64_b2
    dsimp only
    rw [cond_t (by simp; omega), at_getD 0 hi, Option.bind_some, Option.bind_some, h i hi, cF, wrU (by omega)]) (by
    unfold T_slices_Index___float64_float64_b2
    dsimp only
    rw [cond_f (by simp)])
  rw [show ((0 : Nat) : Int) = 0 from rfl] at t1
  rw [t1]; rfl
theorem solve_good {l d b : List Nat} {n : Nat} (hn : n ≤ 48) (ll : l.length = tri n) (ld : d.length = n) (lb : b.length = n) (hR : T_lower_Right n l d = some true) (nz : ∀ i, i < n → feq 0 (d.getD i 0) = false) :
    T_solve_Solve n l d b = some (bk l (quoG d (fw l b n)) n n, 0) := by
  have fit : T_solve_fits n l d n = some 0 := by
    unfold T_solve_fits; rw [hR, Option.bind_some]; rw [cond_t (by rfl), cond_f (by simp)]
  have hf := forward_t (q := n) (l := l) (d := d) (b := b) hn ll lb
  rw [lb] at hf
  unfold T_solve_Solve T_solve_Forward
  rw [Option.bind_some, lb, fit, Option.bind_some, cond_f (by rfl), clone_e (by omega), Option.bind_some, Option.bind_some, lb, hf]
  simp only [Option.bind_some]
  rw [cond_f (by rfl)]
  unfold T_solve_Back
  have lf : (fw l b n).length = n := fw_len l b n
  rw [Option.bind_some, lf, fit, Option.bind_some, cond_f (by rfl), nf_zero, contains_no (by omega) (fun i hi => nz i (by omega)), Option.bind_some, cF, clone_e (by omega), Option.bind_some, Option.bind_some, quo_t hn ld lf, Option.bind_some, Option.bind_some, back_t hn ll (by simp), Option.bind_some]
  have key : ∀ k, k ≤ n → bk l (fun i => ((List.range n).map (quoG d (fw l b n))).getD i 0) n k = bk l (quoG d (fw l b n)) n k := by
    intro k
    induction k with
    | zero => intro _; rfl
    | succ k ih =>
      intro hk
      have e : ((List.range n).map (quoG d (fw l b n))).getD (n - 1 - k) 0 = quoG d (fw l b n) (n - 1 - k) := by
        simp [List.getD_eq_getElem?_getD, show n - 1 - k < n by omega]
      unfold bk
      rw [ih (by omega), e]
  rw [key n (Nat.le_refl _)]; rfl
theorem triE {n : Nat} (hn : n ≤ 48) : IntKind.i64.wrap ((IntKind.i64.wrap ((n : Int) * (IntKind.i64.wrap ((n : Int) - 1)))).tdiv 2) = ((tri n : Nat) : Int) := by
  cases n with
  | zero => decide
  | succ n =>
    have e1 : IntKind.i64.wrap (((n + 1 : Nat) : Int) - 1) = ((n + 1 - 1 : Nat) : Int) := by rw [wrI (by omega) (by omega)]; omega
    have hb : (n + 1) * (n + 1 - 1) ≤ 48 * 48 := Nat.mul_le_mul (by omega) (by omega)
    have e2 : ((((n + 1) * (n + 1 - 1) : Nat) : Int)).tdiv 2 = ((tri (n + 1) : Nat) : Int) := rfl
    have := tri_le hn
    rw [e1, wrMul (by omega), e2, wrN (by omega)]
theorem lright_yes {n : Nat} {l d : List Nat} (hn : n ≤ 48) (hl : l.length = tri n) (hd : d.length = n) : T_lower_Right n l d = some true := by
  rcases right_cases (n : Int) l d with ⟨h, _⟩ | h
  · exact h
  · unfold T_lower_Right at h
    rw [cond_t (by rw [decide_eq_true_eq]; omega), cond_t (by rw [decide_eq_true_eq]; omega), triE hn, hl, hd, Option.bind_some, cond_t (by rw [beq_iff_eq]), Option.bind_some, beq_self_eq_true] at h
    cases h
theorem whlL_snoc (g : Nat → Int) (n : Nat) : whlL g n ++ [whl (g n)] = whlL g (n + 1) := map_range_snoc
theorem step_good {A X b l d : List Nat} {n : Nat} {r : List Nat} (hn : n ≤ 48) (hA : A.length = n * n) (hX : X.length = n) (hb : b.length = n) (ll : l.length = tri n) (ld : d.length = n) (nz : ∀ i, i < n → feq 0 (d.getD i 0) = false)
    (hr : r.length = n) (hL : leftF n n A X b = (r, 0)) (hf : allF (zipV fadd X (bk l (quoG d (fw l r n)) n n)) = true) : T_refine_Step n n A n l d X b = some (zipV fadd X (bk l (quoG d (fw l r n)) n n), 0) := by
  have hR : T_lower_Right n l d = some true := lright_yes hn ll ld
  have f : fitL n n A X b = true := by
    unfold fitL
    rw [hX, hA, hb, rightB_mk hn hn rfl, beq_self_eq_true]; rfl
  have hnn : n * n ≤ 48 * 48 := Nat.mul_le_mul hn hn
  have fs : T_refine_fits n n A n l d = some true := by
    unfold T_refine_fits
    rw [mright_t, hA, rightB_mk hn hn rfl, Option.bind_some, cT, hR, Option.bind_some, cT, beq_self_eq_true, cT]
  unfold T_refine_Step
  rw [rfit_e, f]
  simp only [Option.bind_some, Bool.not_true, Bool.not_false, cF, cT]
  rw [fs]
  simp only [Option.bind_some, Bool.not_true, cF]
  rw [xleft_t n n (by omega) (by omega) (by omega), hL]
  simp only [Option.bind_some]
  rw [cond_f (by rfl), solve_good hn ll ld hr hR nz, Option.bind_some]
  dsimp only
  rw [cond_f (by rfl), vadd_t]
  have fv : fitV X (bk l (quoG d (fw l r n)) n n) = 0 := by
    unfold fitV
    rw [hX, bk_len, if_pos rfl, if_neg (by omega)]
  unfold eachV
  rw [fv, if_pos rfl, Option.bind_some]
  dsimp only
  have lz : (zipV fadd X (bk l (quoG d (fw l r n)) n n)).length = n := by simp [zipV, hX]
  rw [refin_t (by simp) (by simp [lz]; omega), Option.bind_some]
  have e1 : [zipV fadd X (bk l (quoG d (fw l r n)) n n)].all allF = true := by simp [hf]
  rw [e1]; rfl
end Go.Eng
