/-
  RefineNothing, the plain law: nothing is left of a system whose numbers are whole and small, and a step changes nothing. Its condition: small whole numbers.
-/
import Derived.Test.YtdephdnkkljfeaaGreatDoorLe
import Derived.Test.YtdephdnkkljfeaaGreatDoorPf
import Derived.Test.YtdephdnkkljfeaaGreatDoorPv2
import Derived.Test.YtdephdnkkljfeaaGreatDoorWsl0
import Derived.Test.YtdephdnkkljfeaaGreatDoorWhl3
import Derived.Test.YtdephdnkkljfeaaGreatDoorWk
import Derived.Test.YtdephdnkkljfeaaGreatDoorLw0
import Derived.Test.YtdephdnkkljfeaaGreatDoorRow2
set_option linter.all false
set_option maxRecDepth 100000
set_option maxHeartbeats 400000
set_option exponentiation.threshold 140000
namespace Go.Eng
open Go
theorem whl_lt {z : Int} (h : z.natAbs < 9007199254740992) : magF (whl z) < 9218868437227405312 := (whl_wv h).1
theorem whl_val {z : Int} (h : z.natAbs < 9007199254740992) : sval (whl z) = z * ((2 ^ 1074 : Nat) : Int) := (whl_wv h).2
def whlL (g : Nat → Int) (n : Nat) : List Nat := (List.range n).map fun i => whl (g i)
theorem whlL_at {g : Nat → Int} {n i : Nat} (h : i < n) : (whlL g n).getD i 0 = whl (g i) := by simp [whlL, List.getD_eq_getElem?_getD, h]
theorem whlL_len (g : Nat → Int) (n : Nat) : (whlL g n).length = n := by simp [whlL]
theorem whlL_fin {g : Nat → Int} {n : Nat} (h : ∀ i, i < n → (g i).natAbs < 9007199254740992) : allF (whlL g n) = true :=
  allF_of fun i hi => by rw [whlL_len] at hi; rw [whlL_at hi]; exact whl_lt (h i hi)
theorem sumZ_mul (z : Nat → Int) (P : Int) : ∀ n, sumZ (fun j => z j * P) n = sumZ z n * P
  | 0 => by simp [sumZ]
  | n + 1 => by
    show sumZ (fun j => z j * P) n + z n * P = (sumZ z n + z n) * P
    rw [sumZ_mul z P n, Int.add_mul]
theorem one_rV : rV (1 * ((2 ^ 1074 : Nat) : Int) * ((2 ^ 1074 : Nat) : Int)) (-2148) 0 = 4607182418800017408 := by decide +kernel
theorem zero_rV (K m : Int) : rV 0 K m = 0 := by
  unfold rV rF
  rw [Int.natAbs_zero, if_pos rfl]
theorem resid_whl {a x b : Nat → Int} {n i : Nat} (hi : i < n) (ha : ∀ i, i < n * n → (a i).natAbs < 9007199254740992) (hx : ∀ i, i < n → (x i).natAbs < 9007199254740992) (hb : ∀ i, i < n → (b i).natAbs < 9007199254740992) :
    resid (whlL a (n * n)) (whlL x n) (whlL b n) n i = (b i - sumZ (fun j => a (i * n + j) * x j) n) * ((2 ^ 1074 : Nat) : Int) * ((2 ^ 1074 : Nat) : Int) := by
  unfold resid
  rw [whlL_at hi, whl_val (hb i hi)]
  have e : sumZ (fun j => sval ((whlL a (n * n)).getD (i * n + j) 0) * sval ((whlL x n).getD j 0)) n = sumZ (fun j => a (i * n + j) * x j) n * (((2 ^ 1074 : Nat) : Int) * ((2 ^ 1074 : Nat) : Int)) := by
    rw [← sumZ_mul]
    refine sumZ_congr fun j hj => ?_
    have hk : i * n + j < n * n := idxL hi hj
    rw [whlL_at hk, whlL_at hj, whl_val (ha _ hk), whl_val (hx _ hj)]
    generalize ((2 ^ 1074 : Nat) : Int) = P
    ac_rfl
  rw [e, Int.sub_mul, Int.sub_mul, Int.mul_assoc (sumZ _ n)]
theorem left_whl {a x b : Nat → Int} {n : Nat} (hn : n ≤ 48) (ha : ∀ i, i < n * n → (a i).natAbs < 9007199254740992) (hx : ∀ i, i < n → (x i).natAbs < 9007199254740992) (hb : ∀ i, i < n → (b i).natAbs < 9007199254740992) (d : Nat → Bool)
    (h : ∀ i, i < n → b i - sumZ (fun j => a (i * n + j) * x j) n = if d i then 1 else 0) :
    leftF n n (whlL a (n * n)) (whlL x n) (whlL b n) = ((List.range n).map (fun i => if d i then 4607182418800017408 else 0), 0) := by
  have e : leftL (whlL a (n * n)) (whlL x n) (whlL b n) n n = (List.range n).map (fun i => if d i then 4607182418800017408 else 0) := by
    unfold leftL
    refine List.map_congr_left fun i hi => ?_
    have hi := List.mem_range.1 hi
    rw [resid_whl hi ha hx hb, h i hi]
    cases d i with
    | true => rw [if_pos rfl, if_pos rfl, one_rV]
    | false => rw [if_neg (by decide), if_neg (by decide), Int.zero_mul, Int.zero_mul, zero_rV]
  have f : fitL n n (whlL a (n * n)) (whlL x n) (whlL b n) = true := by
    unfold fitL
    rw [whlL_len, whlL_len, whlL_len, rightB_mk hn hn rfl, beq_self_eq_true]; rfl
  unfold leftF
  rw [f, if_pos rfl, whlL_fin ha, whlL_fin hx, whlL_fin hb, Int.toNat_natCast, e]
  have g : allF ((List.range n).map (fun i => if d i then 4607182418800017408 else 0)) = true := by
    unfold allF
    rw [List.all_eq_true]
    intro y hy
    obtain ⟨i, _, rfl⟩ := List.mem_map.1 hy
    cases d i <;> decide
  rw [g]; rfl
theorem nought_sub : fsub 0 (fmul 0 0) = 0 := by decide +kernel
theorem subN_none {f g : Nat → Nat} : ∀ {k : Nat}, (∀ j, j < k → f j = 0 ∧ g j = 0) → subN f g 0 k = 0
  | 0, _ => rfl
  | k + 1, h => by
    show fsub (subN f g 0 k) (fmul (f k) (g k)) = 0
    rw [subN_none fun j hj => h j (by omega), (h k (by omega)).1, (h k (by omega)).2, nought_sub]
theorem rep_at (n i : Nat) : (List.replicate n 0).getD i 0 = 0 := by
  rw [List.getD_eq_getElem?_getD]
  by_cases h : i < n
  · simp [h]
  · simp [h]
theorem rep_snoc (n : Nat) : List.replicate n 0 ++ [0] = List.replicate (n + 1) (0 : Nat) := by rw [← List.replicate_succ']
theorem fw_none {m n : Nat} : ∀ i, fw (List.replicate m 0) (List.replicate n 0) i = List.replicate i 0
  | 0 => rfl
  | i + 1 => by
    show fw _ _ i ++ [_] = _
    rw [fw_none i, rep_at n i, subN_none (f := fun j => lowG (List.replicate m 0) i j) (g := fun j => (List.replicate i 0).getD j 0) fun j _ => ⟨rep_at _ _, rep_at _ _⟩, rep_snoc]
theorem bk_none {m n : Nat} {q : Nat → Nat} (hq : ∀ i, i < n → q i = 0) : ∀ k, k ≤ n → bk (List.replicate m 0) q n k = List.replicate k 0
  | 0, _ => rfl
  | k + 1, h => by
    show _ :: bk _ _ _ k = _
    rw [bk_none hq k (by omega), hq (n - 1 - k) (by omega), subN_none (f := fun j => lowG (List.replicate m 0) (n - 1 - k + 1 + j) (n - 1 - k)) (g := fun j => (List.replicate k 0).getD j 0) fun j _ => ⟨rep_at _ _, rep_at _ _⟩]; rfl
theorem clone_e {l : List Nat} (h : l.length ≤ 4294967296) : T_slices_Clone___float64_float64 l = some l := by
  unfold T_slices_Clone___float64_float64; rw [cond_t (by simpa using h)]
theorem contains_no {d : List Nat} (hd : d.length ≤ 4096) (h : ∀ i, i < d.length → feq 0 (d.getD i 0) = false) : T_slices_Contains___float64_float64 d 0 = some false := by
  unfold T_slices_Contains___float64_float64 T_slices_Index___float64_float64
  simp only [Option.bind_some]
  have t1 := iter_nat (b := T_slices_Index___float64_float64_b2 ((d.length : Nat) : Int) d 0) (fun i => ((i : Nat) : Int)) (o := .inl ()) d.length (by rw [FU_eq]; omega) (fun i hi => by
    unfold T_slices_Index___float64_float64_b2
    dsimp only
    rw [cond_t (by simp; omega), at_getD 0 hi, Option.bind_some, Option.bind_some, h i hi, cF, wrU (by omega)]) (by
    unfold T_slices_Index___float64_float64_b2
    dsimp only
    rw [cond_f (by simp)])
  rw [show ((0 : Nat) : Int) = 0 from rfl] at t1
  rw [t1]; rfl
theorem div8 : ∀ i : Nat, i < 8 → fdiv 0 (whl ((i : Int) + 1)) = 0 := by decide +kernel
theorem solve_none {l d : List Nat} {n : Nat} (h8 : n ≤ 8) (hn : n ≤ 48) (hR : T_lower_Right n l d = some true) (hl : l = List.replicate (tri n) 0) (hd : d = whlL (fun i => (i : Int) + 1) n) :
    T_solve_Solve n l d (List.replicate n 0) = some (List.replicate n 0, 0) := by
  have ll : l.length = tri n := by rw [hl]; simp
  have ld : d.length = n := by rw [hd, whlL_len]
  have sm : ∀ i, i < n → ((i : Int) + 1).natAbs < 9007199254740992 := fun i hi => by omega
  have fit : T_solve_fits n l d n = some 0 := by
    unfold T_solve_fits; rw [hR, Option.bind_some]; rw [cond_t (by rfl), cond_f (by simp)]
  unfold T_solve_Solve T_solve_Forward
  have e1 : ((((List.replicate n 0 : List Nat)).length : Nat) : Int) = n := by simp
  have e1' : (((List.replicate n 0 : List Nat)).length : Nat) = n := by simp
  rw [Option.bind_some, e1, fit, Option.bind_some, cond_f (by rfl), clone_e (by simp; omega), Option.bind_some, Option.bind_some]
  have hf := forward_t (q := n) (l := l) (d := d) (b := List.replicate n 0) hn ll (by simp)
  rw [hf, hl, fw_none, ← hl]
  simp only [Option.bind_some]
  rw [cond_f (by rfl)]
  unfold T_solve_Back
  rw [Option.bind_some, e1, fit, Option.bind_some, cond_f (by rfl), nf_zero, contains_no (by omega) ?_, Option.bind_some, cF, clone_e (by simp; omega), Option.bind_some, Option.bind_some, quo_t hn ld (by simp), Option.bind_some, Option.bind_some, back_t hn ll (by simp), Option.bind_some]
  · have hq : ∀ i, i < n → ((List.range n).map (quoG d (List.replicate n 0))).getD i 0 = 0 := fun i hi => by
      have e : ((List.range n).map (quoG d (List.replicate n 0))).getD i 0 = quoG d (List.replicate n 0) i := by
        simp [List.getD_eq_getElem?_getD, hi]
      rw [e]
      unfold quoG
      rw [rep_at, hd, whlL_at hi]
      exact div8 i (by omega)
    rw [hl, bk_none hq n (Nat.le_refl _)]; rfl
  · intro i hi
    rw [ld] at hi
    rw [hd, whlL_at hi]
    exact wv_ne (wv_zero rfl) (whl_wv (sm i hi)) (by omega)
theorem triE {n : Nat} (hn : n ≤ 48) : IntKind.i64.wrap ((IntKind.i64.wrap ((n : Int) * (IntKind.i64.wrap ((n : Int) - 1)))).tdiv 2) = ((tri n : Nat) : Int) := by
  cases n with
  | zero => decide
  | succ n =>
    have e1 : IntKind.i64.wrap (((n + 1 : Nat) : Int) - 1) = ((n + 1 - 1 : Nat) : Int) := by rw [wrI (by omega) (by omega)]; omega
    have hb : (n + 1) * (n + 1 - 1) ≤ 48 * 48 := Nat.mul_le_mul (by omega) (by omega)
    have e2 : ((((n + 1) * (n + 1 - 1) : Nat) : Int)).tdiv 2 = ((tri (n + 1) : Nat) : Int) := rfl
    have := tri_le hn
    rw [e1, wrMul (by omega), e2, wrN (by omega)]
theorem lright_yes {n : Nat} {l d : List Nat} (hn : n ≤ 48) (hl : l.length = tri n) (hd : d.length = n) : T_lower_Right n l d = some true := by
  rcases right_cases (n : Int) l d with ⟨h, _⟩ | h
  · exact h
  · unfold T_lower_Right at h
    rw [cond_t (by rw [decide_eq_true_eq]; omega), cond_t (by rw [decide_eq_true_eq]; omega), triE hn, hl, hd, Option.bind_some, cond_t (by rw [beq_iff_eq]), Option.bind_some, beq_self_eq_true] at h
    cases h
theorem likeSelf {l : List Nat} (hl : l.length ≤ 4294967296) (h : ∀ i, i < l.length → feq (l.getD i 0) (l.getD i 0) = true) : T_k_LikeReals l l = some true := by
  unfold T_k_LikeReals
  simp only [Option.bind_some]
  rw [cond_f (by simp)]
  have := iter_nat (b := T_k_LikeReals_b2 l l) (fun i => ((i : Nat) : Int)) (o := .inl ()) l.length (by rw [FU_eq]; omega) (fun i hi => by
    unfold T_k_LikeReals_b2 T_k_Like
    simp only [Option.bind_some]
    rw [cond_t (by simp; omega), at_getD 0 hi, Option.bind_some, Option.bind_some, h i hi, Bool.not_true, cF, Option.bind_some, Bool.not_true, cF, wrU (by omega)]) (by
    unfold T_k_LikeReals_b2
    simp only [Option.bind_some]
    rw [cond_f (by simp)])
  rw [show ((0 : Nat) : Int) = 0 from rfl] at this
  rw [this]; rfl
theorem add_none {x : Nat → Int} {n : Nat} (hx : ∀ i, i < n → (x i).natAbs < 9007199254740992) : zipV fadd (whlL x n) (List.replicate n 0) = whlL x n := by
  unfold zipV
  rw [whlL_len]
  refine List.map_congr_left fun i hi => ?_
  have hi := List.mem_range.1 hi
  rw [rep_at, whlL_at hi, fadd_whl' (hx i hi) (wv_zero rfl), Int.add_zero]
theorem step_none {A b l d : List Nat} {x : Nat → Int} {n : Nat} (h8 : n ≤ 8) (hx : ∀ i, i < n → (x i).natAbs < 9007199254740992) (hA : A.length = n * n) (hb : b.length = n) (hl : l = List.replicate (tri n) 0) (hd : d = whlL (fun i => (i : Int) + 1) n)
    (hL : leftF n n A (whlL x n) b = (List.replicate n 0, 0)) : T_refine_Step n n A n l d (whlL x n) b = some (whlL x n, 0) := by
  have hR : T_lower_Right n l d = some true := lright_yes (by omega) (by rw [hl]; simp) (by rw [hd, whlL_len])
  have f : fitL n n A (whlL x n) b = true := by
    unfold fitL
    rw [whlL_len, hA, hb, rightB_mk (by omega) (by omega) rfl, beq_self_eq_true]; rfl
  have hnn : n * n ≤ 8 * 8 := Nat.mul_le_mul h8 h8
  have fs : T_refine_fits n n A n l d = some true := by
    unfold T_refine_fits
    rw [mright_t, hA, rightB_mk (by omega) (by omega) rfl, Option.bind_some, cT, hR, Option.bind_some, cT, beq_self_eq_true, cT]
  unfold T_refine_Step
  rw [rfit_e, f]
  simp only [Option.bind_some, Bool.not_true, Bool.not_false, cF, cT]
  rw [fs]
  simp only [Option.bind_some, Bool.not_true, cF]
  rw [xleft_t n n (by omega) (by rw [whlL_len]; omega) (by omega), hL]
  simp only [Option.bind_some]
  rw [cond_f (by rfl), solve_none h8 (by omega) hR hl hd, Option.bind_some]
  dsimp only
  rw [cond_f (by rfl), vadd_t]
  have fv : fitV (whlL x n) (List.replicate n 0) = 0 := by
    unfold fitV
    rw [whlL_len, List.length_replicate, if_pos rfl, if_neg (by omega)]
  unfold eachV
  rw [fv, if_pos rfl, Option.bind_some]
  dsimp only
  rw [add_none hx, refin_t (by simp) (by simp [whlL_len]; omega), Option.bind_some]
  have e1 : [whlL x n].all allF = true := by simp [whlL_fin hx]
  rw [e1]; rfl
theorem pick_at (l : List Int) (k : Nat) : (cond (decide ((k : Int) < ((l.length : Nat) : Int))) ((atI l (k : Int)).bind fun t => some t) (some 0)) = some (l.getD k 0) := by
  by_cases h : k < l.length
  · rw [cond_t (by simpa using h), at_getD 0 h]; rfl
  · rw [cond_f (by simpa using h), List.getD_eq_getElem?_getD, List.getElem?_eq_none (by omega)]; rfl
theorem whlL_snoc (g : Nat → Int) (n : Nat) : whlL g n ++ [whl (g n)] = whlL g (n + 1) := map_range_snoc
theorem getD_8 {l : List Int} (h : ∀ v ∈ l, -128 ≤ v ∧ v ≤ 127) (k : Nat) : -128 ≤ l.getD k 0 ∧ l.getD k 0 ≤ 127 := by
  rw [List.getD_eq_getElem?_getD]
  by_cases c : k < l.length
  · rw [List.getElem?_eq_getElem c]; exact h _ (List.getElem_mem c)
  · rw [List.getElem?_eq_none (by omega)]; decide
theorem prod_8 {a b : Int} (ha : -128 ≤ a ∧ a ≤ 127) (hb : -128 ≤ b ∧ b ≤ 127) : (a * b).natAbs ≤ 16384 := by
  rw [Int.natAbs_mul]
  exact Nat.mul_le_mul (show a.natAbs ≤ 128 by omega) (show b.natAbs ≤ 128 by omega)
theorem one_whl : (4607182418800017408 : Nat) = whl 1 := by decide +kernel
theorem rep_const (n : Nat) : (List.range n).map (fun _ => if (false = true) then 4607182418800017408 else 0) = List.replicate n 0 := by
  simp only [Bool.false_eq_true, if_false]
  exact const_range n
theorem awake14 : T_w14_awake = some true := by decide +kernel
theorem nothing14 {l0 l1 : List Int} {q : Int} (h0 : ∀ v ∈ l0, -128 ≤ v ∧ v ≤ 127) (h1 : ∀ v ∈ l1, -128 ≤ v ∧ v ≤ 127) : T_w14_RefineNothing l0 l1 q = some true := by
  unfold T_w14_RefineNothing
  rw [awake14]
  simp only [Option.bind_some, Bool.not_true, cF]
  obtain ⟨n, hN, h8, hl⟩ : ∃ n : Nat, (if (8 : Int) < ((l1.length : Nat) : Int) then (8 : Int) else ((l1.length : Nat) : Int)) = (n : Int) ∧ n ≤ 8 ∧ n ≤ l1.length := by
    by_cases c : 8 < l1.length
    · exact ⟨8, by rw [if_pos (by omega)]; rfl, by omega, by omega⟩
    · exact ⟨l1.length, by rw [if_neg (by omega)], by omega, by omega⟩
  rw [hN]
  by_cases n0 : n = 0
  · rw [cond_t (by rw [beq_iff_eq]; omega)]
  · rw [cond_f (by rw [beq_eq_false_iff_ne]; omega)]
    have hnn : n * n ≤ 8 * 8 := Nat.mul_le_mul h8 h8
    have inn : ∀ i, i < n → i * n + n ≤ n * n := fun i hi => by rw [← Nat.succ_mul]; exact Nat.mul_le_mul_right _ hi
    have sa : ∀ k, (l0.getD k 0).natAbs < 9007199254740992 := fun k => by have := getD_8 h0 k; omega
    have sx : ∀ k, (l1.getD k 0).natAbs < 9007199254740992 := fun k => by have := getD_8 h1 k; omega
    have sb : ∀ i j, j ≤ n → (sumZ (fun k => l0.getD (i * n + k) 0 * l1.getD k 0) j).natAbs ≤ 131072 := fun i j hj => by
      have := sumZ_le (z := fun k => l0.getD (i * n + k) 0 * l1.getD k 0) (P := 16384) (n := j) fun k _ => prod_8 (getD_8 h0 _) (getD_8 h1 _)
      omega
    have sb' : ∀ i, i < n → (sumZ (fun k => l0.getD (i * n + k) 0 * l1.getD k 0) n).natAbs < 9007199254740992 := fun i _ => by have := sb i n (Nat.le_refl _); omega
    have loop := iter_nat (b := T_w14_RefineNothing_b7 ((l1.length : Nat) : Int) l0 l1) (fun i => (((i : Nat) : Int), whlL (fun k => l1.getD k 0) i, whlL (fun i => sumZ (fun k => l0.getD (i * n + k) 0 * l1.getD k 0) n) i, whlL (fun k => l0.getD k 0) (i * n))) (o := (whlL (fun k => l1.getD k 0) n, whlL (fun i => sumZ (fun k => l0.getD (i * n + k) 0 * l1.getD k 0) n) n, whlL (fun k => l0.getD k 0) (n * n))) n (by rw [FU_eq]; omega) (fun i hi => by
      have hin := inn i hi
      unfold T_w14_RefineNothing_b7
      dsimp only
      rw [hN, cond_t (by rw [decide_eq_true_eq]; omega)]
      have inner := iter_nat (b := T_w14_RefineNothing_b9 ((l1.length : Nat) : Int) l0 ((i : Nat) : Int) l1) (fun j => (sumZ (fun k => l0.getD (i * n + k) 0 * l1.getD k 0) j, ((j : Nat) : Int), whlL (fun k => l0.getD k 0) (i * n + j))) (o := (sumZ (fun k => l0.getD (i * n + k) 0 * l1.getD k 0) n, whlL (fun k => l0.getD k 0) (i * n + n))) n (by rw [FU_eq]; omega) (fun j hj => by
        have ga := getD_8 h0 (i * n + j)
        have gx := getD_8 h1 j
        have gp := prod_8 ga gx
        have gs := sb i j (by omega)
        unfold T_w14_RefineNothing_b9
        dsimp only
        rw [hN, cond_t (by rw [decide_eq_true_eq]; omega)]
        simp only [Option.bind_some]
        rw [wrIdx hi hj (by omega), pick_at, Option.bind_some, nf_whl (sa _), app_le (by rw [whlL_len]; simp; omega), Option.bind_some, at_getD 0 (show j < l1.length by omega), Option.bind_some, wrI (n := l0.getD (i * n + j) 0) (by omega) (by omega), wrI (n := l1.getD j 0) (by omega) (by omega), wrI (n := l0.getD (i * n + j) 0 * l1.getD j 0) (by omega) (by omega), wrI (by omega) (by omega), wrU (by omega), whlL_snoc (fun k => l0.getD k 0)]; rfl) (by
        unfold T_w14_RefineNothing_b9
        dsimp only
        rw [hN, cond_f (by rw [decide_eq_false_iff_not]; omega)])
      have inner : iter (T_w14_RefineNothing_b9 ((l1.length : Nat) : Int) l0 ((i : Nat) : Int) l1) FU (0, 0, whlL (fun k => l0.getD k 0) (i * n)) = some (sumZ (fun k => l0.getD (i * n + k) 0 * l1.getD k 0) n, whlL (fun k => l0.getD k 0) (i * n + n)) := inner
      rw [inner, Option.bind_some]
      dsimp only
      rw [at_getD 0 (show i < l1.length by omega)]
      simp only [Option.bind_some]
      rw [nf_whl (sx _), nf_whl (sb' i hi), app_le (by rw [whlL_len]; simp; omega), Option.bind_some, app_le (by rw [whlL_len]; simp; omega), Option.bind_some, wrU (by omega), whlL_snoc (fun k => l1.getD k 0), whlL_snoc (fun i => sumZ (fun k => l0.getD (i * n + k) 0 * l1.getD k 0) n), Nat.succ_mul]) (by
      unfold T_w14_RefineNothing_b7
      dsimp only
      rw [hN, cond_f (by rw [decide_eq_false_iff_not]; omega)])
    rw [Nat.zero_mul] at loop
    have loop : iter (T_w14_RefineNothing_b7 ((l1.length : Nat) : Int) l0 l1) FU (0, [], [], []) = _ := loop
    rw [show List.map nf [] = ([] : List Nat) from rfl, loop, Option.bind_some]
    dsimp only
    have ht := tri_le (n := n) (by omega)
    rw [triE (by omega), mk_nat (by omega), Option.bind_some]
    have loop2 := iter_nat (b := T_w14_RefineNothing_b11 ((l1.length : Nat) : Int)) (fun i => (((i : Nat) : Int), whlL (fun i => (i : Int) + 1) i)) (o := whlL (fun i => (i : Int) + 1) n) n (by rw [FU_eq]; omega) (fun i hi => by
      unfold T_w14_RefineNothing_b11
      dsimp only
      rw [hN, cond_t (by rw [decide_eq_true_eq]; omega), wrU (by omega)]
      simp only [Option.bind_some]
      rw [nf_whl (by omega), app_le (by rw [whlL_len]; simp; omega), Option.bind_some, ← whlL_snoc]; rfl) (by
      unfold T_w14_RefineNothing_b11
      dsimp only
      rw [hN, cond_f (by rw [decide_eq_false_iff_not]; omega)])
    have loop2 : iter (T_w14_RefineNothing_b11 ((l1.length : Nat) : Int)) FU (0, []) = _ := loop2
    rw [loop2, Option.bind_some, nf_zero]
    have L1 := left_whl (a := fun k => l0.getD k 0) (x := fun k => l1.getD k 0) (b := fun i => sumZ (fun k => l0.getD (i * n + k) 0 * l1.getD k 0) n) (n := n) (by omega) (fun i _ => sa i) (fun i _ => sx i) sb' (fun _ => false) (fun i _ => by rw [if_neg (by decide)]; exact Int.sub_self _)
    rw [rep_const] at L1
    rw [xleft_t n n (by rw [whlL_len]; omega) (by rw [whlL_len]; omega) (by rw [whlL_len]; omega), L1, Option.bind_some]
    dsimp only
    rw [step_none h8 (fun i _ => sx i) (whlL_len ..) (whlL_len ..) rfl rfl L1, Option.bind_some]
    dsimp only
    rw [cond_t (by rfl), cond_t (by rfl), mk_nat (by omega), Option.bind_some, sameReals_t (by simp; omega), Option.bind_some, beq_self_eq_true]
    simp only [Bool.not_true, Bool.not_false, cT]
    rw [likeSelf (by rw [whlL_len]; omega) (fun i hi => by rw [whlL_len] at hi; rw [whlL_at hi]; exact wv_feq (whl_wv (sx i)) (whl_wv (sx i)))]
    simp only [Option.bind_some, Bool.not_true, cF]
    obtain ⟨k, hk, hp⟩ := pick_t q (n := n) (by omega) (by omega)
    have hbk := sb k n (Nat.le_refl _)
    rw [hp, Option.bind_some, at_getD 0 (by rw [whlL_len]; exact hk)]
    simp only [Option.bind_some]
    rw [at_getD 0 (by simpa using hk)]
    simp only [Option.bind_some]
    rw [Int.toNat_natCast, one_nf, whlL_at hk]
    have e1 : (whlL (fun i => sumZ (fun k => l0.getD (i * n + k) 0 * l1.getD k 0) n) n).set k (fadd (whl (sumZ (fun j => l0.getD (k * n + j) 0 * l1.getD j 0) n)) 4607182418800017408) = whlL (fun i => if i = k then sumZ (fun j => l0.getD (i * n + j) 0 * l1.getD j 0) n + 1 else sumZ (fun j => l0.getD (i * n + j) 0 * l1.getD j 0) n) n := by
      rw [fadd_whl' (b := 1) (sb' k hk) (by rw [one_whl]; exact whl_wv (by decide))]
      refine ext_getD 0 (by simp [whlL_len]) fun i hi => ?_
      have hi' : i < n := by simpa [whlL_len] using hi
      clear hi
      have hi := hi'
      rw [whlL_at hi]
      by_cases c : i = k
      · subst c
        rw [if_pos rfl, List.getD_eq_getElem?_getD, List.getElem?_set_self (by rw [whlL_len]; exact hi)]; rfl
      · rw [if_neg c, List.getD_eq_getElem?_getD, List.getElem?_set_ne (fun g => c g.symm), ← List.getD_eq_getElem?_getD, whlL_at hi]
    have e2 : (List.replicate n 0).set k 4607182418800017408 = (List.range n).map (fun i => if (decide (i = k)) then 4607182418800017408 else 0) := by
      refine ext_getD 0 (by simp) fun i hi => ?_
      have hi : i < n := by simpa using hi
      have e : ((List.range n).map (fun i => if (decide (i = k)) then 4607182418800017408 else 0)).getD i 0 = if (decide (i = k)) then 4607182418800017408 else 0 := by simp [List.getD_eq_getElem?_getD, hi]
      rw [e]
      by_cases c : i = k
      · subst c
        rw [if_pos (by simp), List.getD_eq_getElem?_getD, List.getElem?_set_self (by simpa using hi)]; rfl
      · rw [if_neg (by simpa using c), List.getD_eq_getElem?_getD, List.getElem?_set_ne (fun g => c g.symm), ← List.getD_eq_getElem?_getD, rep_at]
    rw [e1, e2]
    have L2 := left_whl (a := fun k => l0.getD k 0) (x := fun k => l1.getD k 0) (b := fun i => if i = k then sumZ (fun j => l0.getD (i * n + j) 0 * l1.getD j 0) n + 1 else sumZ (fun j => l0.getD (i * n + j) 0 * l1.getD j 0) n) (n := n) (by omega) (fun i _ => sa i) (fun i _ => sx i) (fun i hi => by have := sb i n (Nat.le_refl _); split <;> omega) (fun i => decide (i = k)) (fun i _ => by
      by_cases c : i = k
      · rw [if_pos c, if_pos (by simpa using c)]; omega
      · rw [if_neg c, if_neg (by simpa using c)]; omega)
    rw [xleft_t n n (by rw [whlL_len]; omega) (by rw [whlL_len]; omega) (by rw [whlL_len]; omega), L2, Option.bind_some]
    dsimp only
    rw [beq_self_eq_true, cT, sameReals_t (by simp; omega), beq_self_eq_true]; rfl
section
variable {N : Nums} {P : Program} (H : AllOk N P)
include H
theorem nothing14_f {q : Int} {sa sb : Option Addr} {na ma nb mb : Nat} {la lb : List Int} {w : World} (hA : rdA (la.map (Value.int .i8)) sa na ma w) (hB : rdA (lb.map (Value.int .i8)) sb nb mb w)
    (wa : ∀ y ∈ la, (Lit.int .i8 y).wf = true) (wb : ∀ y ∈ lb, (Lit.int .i8 y).wf = true) (hG : tab64 N.g_1 w) :
    CallsX P N.f_w14_RefineNothing #[.slice sa na ma, .slice sb nb mb, .int .i64 q] w fun v w' => v = .bool true ∧ ∃ M, St w w' M := by
  have fits : ∀ {l : List Int}, (∀ y ∈ l, (Lit.int .i8 y).wf = true) → ∀ v ∈ l, -128 ≤ v ∧ v ≤ 127 := fun h v hv => by
    have := h v hv
    simp [Lit.wf, IntKind.min, IntKind.max, IntKind.signed, IntKind.bits] at this
    omega
  have hS := (((Ho.start w).arg own_nil hG).arg (own_cons rfl own_nil) hB).arg (own_cons rfl (own_cons rfl own_nil)) hA
  exact wk_w14_RefineNothing H hS (Ent.rd mp0) (Ent.rd mp1) (Ent.rd mp2) (nothing14 (fits wa) (fits wb)) fun w1 h => ⟨rfl, h.some_old⟩
end
end Go.Eng
