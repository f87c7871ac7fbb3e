/-
  RefineScales, the plain law: what is left, and one step, times a power of two are as many times as great, to the bit. Its condition: words that are words.
-/
import Derived.Test.YtdephdnkkljfeaaGreatDoorLe2
import Derived.Test.YtdephdnkkljfeaaGreatDoorTwo
import Derived.Test.YtdephdnkkljfeaaGreatDoorNf
import Derived.Test.YtdephdnkkljfeaaGreatDoorWk
import Derived.Test.YtdephdnkkljfeaaGreatDoorLw0
import Derived.Test.YtdephdnkkljfeaaGreatDoorRow2
set_option linter.all false
set_option maxRecDepth 100000
set_option maxHeartbeats 400000
set_option exponentiation.threshold 140000
namespace Go.Eng
open Go
theorem sval_wd (s : Bool) {r : Nat} (h : r ≤ 9218868437227405312) : sval (Ieee.double.word s r) = sgN s (vmag r) := by
  unfold sval sgN
  rw [mag_word h, neg_word h]
theorem val_size (x : Nat) : (sval x).natAbs = vmag (magF x) := by
  unfold sval
  split <;> omega
theorem sgN_back (z : Int) : sgN (decide (z < 0)) z.natAbs = z := by
  unfold sgN
  by_cases h : z < 0
  · rw [decide_eq_true h, if_pos rfl]; omega
  · rw [decide_eq_false h, if_neg (by decide)]; omega
def sW (t : Nat) (z : Int) : Nat := rV z ((t : Int) - 20) 0
theorem zero_rV' (K m : Int) : rV 0 K m = 0 := zero_rV K m
theorem sW_near {t : Nat} {z : Int} (h0 : z ≠ 0) : sW t z = Ieee.double.nearest (decide (z < 0)) z.natAbs ((t : Int) - 20) := by
  unfold sW
  rw [near_sg (by omega), sgN_back]
theorem sW_val {t : Nat} (ht : t < 41) {z : Int} (hz : z.natAbs < 9007199254740992) : magF (sW t z) < 9218868437227405312 ∧ sval (sW t z) = z * ((2 ^ (1054 + t) : Nat) : Int) ∧ sW t z < 18446744073709551616 := by
  by_cases h0 : z = 0
  · subst h0
    unfold sW
    rw [zero_rV']
    refine ⟨by decide, ?_, by decide⟩
    rw [Int.zero_mul]; exact (sval_zero 0).2 (by decide)
  · rw [sW_near h0]
    have hlog : z.natAbs.log2 < 53 := (Nat.log2_lt (by omega)).2 hz
    have ex : Ex z.natAbs ((t : Int) - 20) := ⟨by omega, hz, by omega, by omega⟩
    obtain ⟨r, h1, h2, h3, h4⟩ := near_ex (decide (z < 0)) ex
    rw [h1]
    refine ⟨by rw [mag_word (by omega)]; exact h2, ?_, word_bound _ _ (by omega)⟩
    rw [sval_wd _ (by omega), h4, show ((t : Int) - 20 + 1074).toNat = 1054 + t by omega]
    generalize 2 ^ (1054 + t) = P
    unfold sgN
    by_cases c : z < 0
    · rw [decide_eq_true c, if_pos rfl, Int.natCast_mul, ← Int.neg_mul]; congr 1; omega
    · rw [decide_eq_false c, if_neg (by decide), Int.natCast_mul]; congr 1; omega
theorem sW_whl {z : Int} : sW 20 z = whl z := by
  by_cases h0 : z = 0
  · subst h0
    unfold sW
    rw [zero_rV', whl_zero]
  · rw [sW_near h0]; rfl
theorem pwQ (t : Nat) : ((2 ^ (2128 + t) : Nat) : Int) = ((2 ^ 1074 : Nat) : Int) * ((2 ^ (1054 + t) : Nat) : Int) := by
  have h : (2 : Nat) ^ (2128 + t) = 2 ^ 1074 * 2 ^ (1054 + t) := by rw [← Nat.pow_add]; congr 1; omega
  rw [h, Int.natCast_mul]
theorem pow_facts : ∀ t : Nat, t < 41 → magF (pow2F ((t : Int) - 20)) < 9218868437227405312 ∧ sval (pow2F ((t : Int) - 20)) = ((2 ^ (1054 + t) : Nat) : Int) ∧ fmul 0 (pow2F ((t : Int) - 20)) = 0 := by decide +kernel
theorem mul_whl {t : Nat} (ht : t < 41) {z : Int} (hz : z.natAbs < 9007199254740992) : fmul (whl z) (pow2F ((t : Int) - 20)) = sW t z := by
  obtain ⟨p1, p2, p3⟩ := pow_facts t ht
  by_cases h0 : z = 0
  · subst h0
    unfold sW
    rw [zero_rV', whl_zero, p3]
  · have e : sval (whl z) * sval (pow2F ((t : Int) - 20)) = z * ((2 ^ (2128 + t) : Nat) : Int) := by
      rw [whl_val hz, p2, pwQ, Int.mul_assoc]
    have hp := Nat.two_pow_pos (2128 + t)
    rw [fmul_v (whl_lt hz) p1 (by rw [e]; exact Int.mul_ne_zero h0 (by omega)), e, rV_shift]
    unfold sW
    congr 1; omega
def scL (t : Nat) (g : Nat → Int) (n : Nat) : List Nat := (List.range n).map fun i => sW t (g i)
theorem scL_at {t : Nat} {g : Nat → Int} {n i : Nat} (h : i < n) : (scL t g n).getD i 0 = sW t (g i) := by simp [scL, List.getD_eq_getElem?_getD, h]
theorem scL_len (t : Nat) (g : Nat → Int) (n : Nat) : (scL t g n).length = n := by simp [scL]
theorem scL_fin {t : Nat} (ht : t < 41) {g : Nat → Int} {n : Nat} (h : ∀ i, i < n → (g i).natAbs < 9007199254740992) : allF (scL t g n) = true :=
  allF_of fun i hi => by rw [scL_len] at hi; rw [scL_at hi]; exact (sW_val ht (h i hi)).1
theorem scL_whl (g : Nat → Int) (n : Nat) : scL 20 g n = whlL g n := List.map_congr_left fun i _ => sW_whl
theorem left_sc {t : Nat} (ht : t < 41) {a x b : Nat → Int} {n : Nat} (hn : n ≤ 48) (ha : ∀ i, i < n * n → (a i).natAbs < 9007199254740992) (hx : ∀ i, i < n → (x i).natAbs < 9007199254740992) (hb : ∀ i, i < n → (b i).natAbs < 9007199254740992)
    (hz : ∀ i, i < n → (b i - sumZ (fun j => a (i * n + j) * x j) n).natAbs < 9007199254740992) :
    leftF n n (whlL a (n * n)) (scL t x n) (scL t b n) = (scL t (fun i => b i - sumZ (fun j => a (i * n + j) * x j) n) n, 0) := by
  have e : leftL (whlL a (n * n)) (scL t x n) (scL t b n) n n = scL t (fun i => b i - sumZ (fun j => a (i * n + j) * x j) n) n := by
    unfold leftL scL
    refine List.map_congr_left fun i hi => ?_
    have hi := List.mem_range.1 hi
    have er : resid (whlL a (n * n)) ((List.range n).map fun i => sW t (x i)) ((List.range n).map fun i => sW t (b i)) n i = (b i - sumZ (fun j => a (i * n + j) * x j) n) * ((2 ^ (2128 + t) : Nat) : Int) := by
      unfold resid
      have eb : ((List.range n).map fun i => sW t (b i)).getD i 0 = sW t (b i) := scL_at hi
      rw [eb, (sW_val ht (hb i hi)).2.1]
      have es : sumZ (fun j => sval ((whlL a (n * n)).getD (i * n + j) 0) * sval (((List.range n).map fun i => sW t (x i)).getD j 0)) n = sumZ (fun j => a (i * n + j) * x j) n * (((2 ^ 1074 : Nat) : Int) * ((2 ^ (1054 + t) : Nat) : Int)) := by
        rw [← sumZ_mul]
        refine sumZ_congr fun j hj => ?_
        have hk : i * n + j < n * n := idxL hi hj
        have ex : ((List.range n).map fun i => sW t (x i)).getD j 0 = sW t (x j) := scL_at hj
        rw [whlL_at hk, ex, whl_val (ha _ hk), (sW_val ht (hx j hj)).2.1]
        generalize ((2 ^ 1074 : Nat) : Int) = P
        generalize ((2 ^ (1054 + t) : Nat) : Int) = Q
        ac_rfl
      rw [es, pwQ, Int.sub_mul]
      generalize ((2 ^ 1074 : Nat) : Int) = P
      generalize ((2 ^ (1054 + t) : Nat) : Int) = Q
      rw [Int.mul_assoc, Int.mul_comm Q P]
    rw [er, rV_shift]
    unfold sW
    congr 1; omega
  have f : fitL n n (whlL a (n * n)) (scL t x n) (scL t b n) = true := by
    unfold fitL
    rw [whlL_len, scL_len, scL_len, rightB_mk hn hn rfl, beq_self_eq_true]; rfl
  unfold leftF
  rw [f, if_pos rfl, whlL_fin ha, scL_fin ht hx, scL_fin ht hb, Int.toNat_natCast, e, scL_fin ht hz]; rfl
theorem sW_two {t : Nat} (ht : t < 41) {z : Int} (hz : z.natAbs ≤ 2 ^ 44) : Two ((t : Int) - 20) 1054 1118 (whl z) (sW t z) := by
  have hz' : z.natAbs < 9007199254740992 := Nat.lt_of_le_of_lt hz (by decide)
  have hl : whl z < 18446744073709551616 := nearest_lt _ _ _
  have hv : vmag (magF (whl z)) = z.natAbs * 2 ^ 1074 := by
    rw [← val_size, whl_val hz', Int.natAbs_mul, Int.natAbs_natCast]
  have g : Gr 1074 1118 (whl z) := ⟨whl_lt hz', by rw [hv]; exact Nat.dvd_mul_left _ _, by rw [hv, show 1118 = 44 + 1074 from rfl, Nat.pow_add]; exact Nat.mul_le_mul_right _ hz⟩
  obtain ⟨s1, s2⟩ := sc_pow2 (p := (t : Int) - 20) g hl (by omega) (by omega) (by omega) (by omega) (by omega) (by omega)
  rw [mul_whl ht hz'] at s1 s2
  exact ⟨g.mono (by omega) (by omega), s1, hl, s2⟩
def lE (a : Nat → Int) (n i j : Nat) : Nat := fdiv (whl ((a (i * n + j)).tmod 64)) 4634204016564240384
theorem tmod_small (z : Int) (m : Nat) (hm : 0 < m) : (z.tmod (m : Int)).natAbs < m := by
  rw [Int.natAbs_tmod, Int.natAbs_natCast]
  exact Nat.mod_lt _ hm
theorem lE_gr (a : Nat → Int) (n i j : Nat) : Gr 1068 1077 (lE a n i j) := by
  have h := tmod_small (a (i * n + j)) 64 (by omega)
  have all : ∀ k : Nat, k < 127 → magF (fdiv (whl ((k : Int) - 63)) 4634204016564240384) < 9218868437227405312 ∧ vmag (magF (fdiv (whl ((k : Int) - 63)) 4634204016564240384)) % 2 ^ 1068 = 0 ∧ vmag (magF (fdiv (whl ((k : Int) - 63)) 4634204016564240384)) ≤ 2 ^ 1077 := by decide +kernel
  have h' : ((a (i * n + j)).tmod 64).natAbs < 64 := h
  have := all ((a (i * n + j)).tmod 64 + 63).toNat (by omega)
  rw [show ((((a (i * n + j)).tmod 64 + 63).toNat : Nat) : Int) - 63 = (a (i * n + j)).tmod 64 by omega] at this
  exact ⟨this.1, Nat.dvd_of_mod_eq_zero this.2.1, this.2.2⟩
def Lr (a : Nat → Int) (n : Nat) : Nat → List Nat
  | 0 => []
  | i + 1 => Lr a n i ++ (List.range i).map (lE a n i)
theorem Lr_len (a : Nat → Int) (n : Nat) : ∀ i, (Lr a n i).length = tri i
  | 0 => rfl
  | i + 1 => by
    unfold Lr
    rw [List.length_append, Lr_len a n i, tri_succ]; simp
theorem Lr_at {a : Nat → Int} {n i j : Nat} (hj : j < i) : ∀ {m}, i < m → lowG (Lr a n m) i j = lE a n i j
  | 0, h => by omega
  | m + 1, h => by
    unfold lowG Lr
    by_cases c : i = m
    · subst c
      rw [List.getD_eq_getElem?_getD, List.getElem?_append_right (by rw [Lr_len]; omega), Lr_len, show tri i + j - tri i = j by omega]
      simp [hj]
    · have hlt : tri i + j < tri m := tri_lt hj (by omega)
      rw [List.getD_eq_getElem?_getD, List.getElem?_append_left (by rw [Lr_len]; exact hlt), ← List.getD_eq_getElem?_getD]
      exact Lr_at hj (by omega)
def dZ (a : Nat → Int) (n i : Nat) : Int := 1 + (i : Int) + a (i * n + i) * a (i * n + i)
theorem sq_b {z : Int} (h : z.natAbs < 1048576) : 0 ≤ z * z ∧ (z * z).natAbs ≤ 2 ^ 40 := by
  refine ⟨by rcases Int.le_total 0 z with c | c
             · exact Int.mul_nonneg c c
             · exact Int.mul_nonneg_of_nonpos_of_nonpos c c, ?_⟩
  rw [Int.natAbs_mul]
  exact Nat.le_trans (Nat.mul_le_mul (Nat.le_of_lt h) (Nat.le_of_lt h)) (by decide)
theorem dZ_b {a : Nat → Int} {n i : Nat} (hi : i < 100) (h : (a (i * n + i)).natAbs < 1048576) : 1 ≤ dZ a n i ∧ (dZ a n i).natAbs ≤ 2 ^ 42 := by
  obtain ⟨h1, h2⟩ := sq_b h
  unfold dZ
  have e : (2 : Nat) ^ 42 = 4398046511104 := by decide
  have e' : (2 : Nat) ^ 40 = 1099511627776 := by decide
  rw [e'] at h2
  rw [e]
  generalize a (i * n + i) * a (i * n + i) = q at *
  omega
theorem dE_t {a : Nat → Int} {n i : Nat} (hi : i < 100) (h : (a (i * n + i)).natAbs < 1048576) : fadd (whl (1 + (i : Int))) (fmul (whl (a (i * n + i))) (whl (a (i * n + i)))) = whl (dZ a n i) := by
  obtain ⟨h1, h2⟩ := sq_b h
  have w := whl_wv (z := a (i * n + i)) (by omega)
  rw [fadd_whl' (by omega) (fmul_whl w w (Nat.lt_of_le_of_lt h2 (by decide)))]; rfl
theorem step_sc {t : Nat} (ht : t < 41) {a x b : Nat → Int} {n : Nat} (hn : n ≤ 4) (ha : ∀ i, (a i).natAbs < 1048576) (hx : ∀ i, (x i).natAbs < 1048576) (hb : ∀ i, (b i).natAbs < 1048576) :
    ∃ y y', T_refine_Step n n (whlL a (n * n)) n (Lr a n n) (whlL (dZ a n) n) (whlL x n) (whlL b n) = some (y, 0) ∧
      T_refine_Step n n (whlL a (n * n)) n (Lr a n n) (whlL (dZ a n) n) (scL t x n) (scL t b n) = some (y', 0) ∧ y.length = n ∧ y' = (List.range n).map (fun i => fmul (y.getD i 0) (pow2F ((t : Int) - 20))) := by
  have ha' : ∀ i, i < n * n → (a i).natAbs < 9007199254740992 := fun i _ => by have := ha i; omega
  have hx' : ∀ i, i < n → (x i).natAbs < 9007199254740992 := fun i _ => by have := hx i; omega
  have hb' : ∀ i, i < n → (b i).natAbs < 9007199254740992 := fun i _ => by have := hb i; omega
  have hz : ∀ i, (b i - sumZ (fun j => a (i * n + j) * x j) n).natAbs ≤ 2 ^ 44 := fun i => by
    have := sumZ_le (z := fun j => a (i * n + j) * x j) (P := 2 ^ 40) (n := n) fun j _ => by
      rw [Int.natAbs_mul]
      exact Nat.le_trans (Nat.mul_le_mul (Nat.le_of_lt (ha _)) (Nat.le_of_lt (hx _))) (by decide)
    have h2 := hb i
    rw [show (2 : Nat) ^ 40 = 1099511627776 from rfl] at this
    rw [show (2 : Nat) ^ 44 = 17592186044416 from rfl]
    have h3 : n * 1099511627776 ≤ 4 * 1099511627776 := Nat.mul_le_mul_right _ hn
    omega
  have hz' : ∀ i, i < n → (b i - sumZ (fun j => a (i * n + j) * x j) n).natAbs < 9007199254740992 := fun i _ => Nat.lt_of_le_of_lt (hz i) (by decide)
  have L1 := left_sc (t := 20) (by omega) (by omega) ha' hx' hb' hz'
  rw [scL_whl, scL_whl, scL_whl] at L1
  have L2 := left_sc ht (by omega) ha' hx' hb' hz'
  have db : ∀ i, i < n → 1 ≤ dZ a n i ∧ (dZ a n i).natAbs ≤ 2 ^ 42 := fun i hi => dZ_b (by omega) (ha _)
  have dw : ∀ i, i < n → (dZ a n i).natAbs < 9007199254740992 := fun i hi => Nat.lt_of_le_of_lt (db i hi).2 (by decide)
  have nz : ∀ i, i < n → feq 0 ((whlL (dZ a n) n).getD i 0) = false := fun i hi => by
    rw [whlL_at hi]
    have := (db i hi).1
    exact wv_ne (wv_zero rfl) (whl_wv (dw i hi)) (by omega)
  have tw := sol_two (p := (t : Int) - 20) (by omega) (by omega) (l := Lr a n n) (d := whlL (dZ a n) n) (b := whlL (fun i => b i - sumZ (fun j => a (i * n + j) * x j) n) n) (b' := scL t (fun i => b i - sumZ (fun j => a (i * n + j) * x j) n) n) (n := n) (by omega)
    (fun i j hj hi => by rw [Lr_at hj hi]; exact lE_gr a n i j) (fun i hi => by rw [whlL_at hi, scL_at hi]; exact sW_two ht (hz i))
    (fun i hi => by
      rw [whlL_at hi]
      have hv : vmag (magF (whl (dZ a n i))) = (dZ a n i).natAbs * 2 ^ 1074 := by
        rw [← val_size, whl_val (dw i hi), Int.natAbs_mul, Int.natAbs_natCast]
      have := db i hi
      refine ⟨whl_lt (dw i hi), ?_, ?_⟩
      · rw [hv]; exact Nat.le_mul_of_pos_left _ (by omega)
      · rw [hv, show 1116 = 42 + 1074 from rfl, Nat.pow_add]; exact Nat.mul_le_mul_right _ this.2)
  have tx : ∀ i, i < n → Two ((t : Int) - 20) 800 1500 (whl (x i)) (sW t (x i)) := fun i hi => (sW_two ht (Nat.le_trans (Nat.le_of_lt (hx i)) (by decide))).mono (by omega) (by omega)
  have sums : ∀ i, i < n → Gr 800 1502 (fadd (whl (x i)) ((bk (Lr a n n) (quoG (whlL (dZ a n) n) (fw (Lr a n n) (whlL (fun i => b i - sumZ (fun j => a (i * n + j) * x j) n) n) n)) n n).getD i 0)) ∧ Sc ((t : Int) - 20) (fadd (whl (x i)) ((bk (Lr a n n) (quoG (whlL (dZ a n) n) (fw (Lr a n n) (whlL (fun i => b i - sumZ (fun j => a (i * n + j) * x j) n) n) n)) n n).getD i 0)) (fadd (sW t (x i)) ((bk (Lr a n n) (quoG (whlL (dZ a n) n) (fw (Lr a n n) (scL t (fun i => b i - sumZ (fun j => a (i * n + j) * x j) n) n) n)) n n).getD i 0)) := fun i hi => by
    have h1 := tx i hi
    have h2 := tw i hi
    exact sc_fadd h1.gr h2.gr h1.sc h2.sc h1.lx h2.lx h1.ly h2.ly (by omega) (by omega) (by omega) (by omega)
  generalize hS : bk (Lr a n n) (quoG (whlL (dZ a n) n) (fw (Lr a n n) (whlL (fun i => b i - sumZ (fun j => a (i * n + j) * x j) n) n) n)) n n = S at *
  generalize hS' : bk (Lr a n n) (quoG (whlL (dZ a n) n) (fw (Lr a n n) (scL t (fun i => b i - sumZ (fun j => a (i * n + j) * x j) n) n) n)) n n = S' at *
  have z1 : ∀ i, i < n → (zipV fadd (whlL x n) S).getD i 0 = fadd (whl (x i)) (S.getD i 0) := fun i hi => by
    unfold zipV
    rw [whlL_len]
    simp only [List.getD_eq_getElem?_getD, List.getElem?_map, List.getElem?_range hi, Option.map_some, Option.getD_some]
    rw [← List.getD_eq_getElem?_getD, whlL_at hi]
  have z2 : ∀ i, i < n → (zipV fadd (scL t x n) S').getD i 0 = fadd (sW t (x i)) (S'.getD i 0) := fun i hi => by
    unfold zipV
    rw [scL_len]
    simp only [List.getD_eq_getElem?_getD, List.getElem?_map, List.getElem?_range hi, Option.map_some, Option.getD_some]
    rw [← List.getD_eq_getElem?_getD, scL_at hi]
  have l1 : (zipV fadd (whlL x n) S).length = n := by simp [zipV, whlL_len]
  have l2 : (zipV fadd (scL t x n) S').length = n := by simp [zipV, scL_len]
  have f1 : allF (zipV fadd (whlL x n) S) = true := allF_of fun i hi => by
    rw [l1] at hi
    rw [z1 i hi]; exact (sums i hi).1.fin
  have f2 : allF (zipV fadd (scL t x n) S') = true := allF_of fun i hi => by
    rw [l2] at hi
    rw [z2 i hi]; exact sc_fin (sums i hi).2 (sums i hi).1.fin
  have r1 := step_good (A := whlL a (n * n)) (X := whlL x n) (b := whlL b n) (l := Lr a n n) (d := whlL (dZ a n) n) (n := n) (by omega) (whlL_len ..) (whlL_len ..) (whlL_len ..) (Lr_len a n n) (whlL_len ..) nz (whlL_len ..) L1 (by rw [hS]; exact f1)
  have r2 := step_good (A := whlL a (n * n)) (X := scL t x n) (b := scL t b n) (l := Lr a n n) (d := whlL (dZ a n) n) (n := n) (by omega) (whlL_len ..) (scL_len ..) (scL_len ..) (Lr_len a n n) (whlL_len ..) nz (scL_len ..) L2 (by rw [hS']; exact f2)
  rw [hS] at r1
  rw [hS'] at r2
  refine ⟨_, _, r1, r2, l1, ?_⟩
  refine ext_getD 0 (by rw [l2]; simp) fun i hi => ?_
  rw [l2] at hi
  have e : ((List.range n).map (fun i => fmul ((zipV fadd (whlL x n) S).getD i 0) (pow2F ((t : Int) - 20)))).getD i 0 = fmul ((zipV fadd (whlL x n) S).getD i 0) (pow2F ((t : Int) - 20)) := by
    simp [List.getD_eq_getElem?_getD, hi]
  rw [e, z1 i hi, z2 i hi]
  obtain ⟨g1, g2⟩ := sums i hi
  have h1 := tx i hi
  have h2 := tw i hi
  obtain ⟨s1, s2⟩ := sc_pow2 (p := (t : Int) - 20) g1 (fadd_lt h1.gr.fin h2.gr.fin) (by omega) (by omega) (by omega) (by omega) (by omega) (by omega)
  exact sc_uniq g2 s1 (fadd_lt (sc_fin h1.sc h1.gr.fin) (sc_fin h2.sc h2.gr.fin)) s2
theorem vscale_t (s : Nat) {l : List Nat} (hl : l.length ≤ 1048576) : T_vector_Scale s l = some ((List.range l.length).map fun i => fmul s (l.getD i 0)) := by
  unfold T_vector_Scale
  simp only [Option.bind_some]
  rw [show (0 : Int) = ((0 : Nat) : Int) from rfl]
  have m0 : mkL (nf 0) ((0 : Nat) : Int) ((l.length : Nat) : Int) = some [] := by
    unfold mkL
    rw [if_pos (by omega)]; rfl
  rw [m0, Option.bind_some]
  have := iter_nat (b := T_vector_Scale_b2 ((l.length : Nat) : Int) l s) (fun i => (((i : Nat) : Int), (List.range i).map fun i => fmul s (l.getD i 0))) (o := (List.range l.length).map fun i => fmul s (l.getD i 0)) l.length (by rw [FU_eq]; omega) (fun i hi => by
    unfold T_vector_Scale_b2
    dsimp only
    rw [cond_t (by simp; omega), at_getD 0 hi]
    simp only [Option.bind_some]
    rw [app_le (by simp; omega), Option.bind_some, wrU (by omega), map_range_snoc (G := fun i => fmul s (l.getD i 0))]) (by
    unfold T_vector_Scale_b2
    dsimp only
    rw [cond_f (by simp)])
  have this : iter (T_vector_Scale_b2 ((l.length : Nat) : Int) l s) FU (((0 : Nat) : Int), []) = _ := this
  rw [this]; rfl
theorem pows14 : ∀ t : Nat, t < 41 → ((iter (T_w14_RefineScales_b2 (t : Int)) FU ((nf 4607182418800017408), 0)).bind fun t5 => iter (T_w14_RefineScales_b4 (t : Int)) FU (t5, 0)) = some (pow2F ((t : Int) - 20)) := by decide +kernel
theorem awake14 : T_w14_awake = some true := by decide +kernel
def aZ (l : List Int) (k : Nat) : Int := (l.getD k 0).tmod 1048576
theorem aZ_b (l : List Int) (k : Nat) : (aZ l k).natAbs < 1048576 := tmod_small (l.getD k 0) 1048576 (by omega)
theorem aZ_s (l : List Int) (k : Nat) : (aZ l k).natAbs < 9007199254740992 := by have := aZ_b l k; omega
theorem getD_32 {l : List Int} (h : ∀ v ∈ l, -2147483648 ≤ v ∧ v ≤ 2147483647) (k : Nat) : -2147483648 ≤ l.getD k 0 ∧ l.getD k 0 ≤ 2147483647 := by
  rw [List.getD_eq_getElem?_getD]
  by_cases c : k < l.length
  · rw [List.getElem?_eq_getElem c]; exact h _ (List.getElem_mem c)
  · rw [List.getElem?_eq_none (by omega)]; decide
theorem pickm {l : List Int} (h : ∀ v ∈ l, -2147483648 ≤ v ∧ v ≤ 2147483647) (k : Nat) : (cond (decide ((k : Int) < ((l.length : Nat) : Int))) ((atI l (k : Int)).bind fun t => some ((IntKind.i64.wrap t).tmod 1048576)) (some 0)) = some (aZ l k) := by
  have b := getD_32 h k
  unfold aZ
  by_cases c : k < l.length
  · rw [cond_t (by simpa using c), at_getD 0 c, Option.bind_some, wrI (by omega) (by omega)]
  · rw [cond_f (by simpa using c), List.getD_eq_getElem?_getD, List.getElem?_eq_none (by omega)]; rfl
theorem sixty : nf 4634204016564240384 = 4634204016564240384 := by decide +kernel
section
variable {l0 l1 l2 : List Int} (h0 : ∀ v ∈ l0, -2147483648 ≤ v ∧ v ≤ 2147483647) (h1 : ∀ v ∈ l1, -2147483648 ≤ v ∧ v ≤ 2147483647) (h2 : ∀ v ∈ l2, -2147483648 ≤ v ∧ v ≤ 2147483647) {n : Nat} (n4 : n ≤ 4)
  (hN : (if (4 : Int) < (if ((l2.length : Nat) : Int) < ((l1.length : Nat) : Int) then ((l2.length : Nat) : Int) else ((l1.length : Nat) : Int)) then (4 : Int) else (if ((l2.length : Nat) : Int) < ((l1.length : Nat) : Int) then ((l2.length : Nat) : Int) else ((l1.length : Nat) : Int))) = (n : Int))
include h0 n4 hN
theorem row_loop {i : Nat} (hi : i < n) : iter (T_w14_RefineScales_b13 ((l2.length : Nat) : Int) ((l1.length : Nat) : Int) l0 (i : Int)) FU (0, Lr (aZ l0) n i, whlL (aZ l0) (i * n)) = some (Lr (aZ l0) n (i + 1), whlL (aZ l0) ((i + 1) * n)) := by
  have hin : i * n + n ≤ n * n := by rw [← Nat.succ_mul]; exact Nat.mul_le_mul_right _ hi
  have hnn : n * n ≤ 4 * 4 := Nat.mul_le_mul n4 n4
  have ht : (Lr (aZ l0) n i).length ≤ 1128 := by rw [Lr_len]; exact tri_le (by omega)
  have := iter_nat (b := T_w14_RefineScales_b13 ((l2.length : Nat) : Int) ((l1.length : Nat) : Int) l0 (i : Int)) (fun j => (((j : Nat) : Int), Lr (aZ l0) n i ++ (List.range (min j i)).map (lE (aZ l0) n i), whlL (aZ l0) (i * n + j))) (o := (Lr (aZ l0) n (i + 1), whlL (aZ l0) ((i + 1) * n))) n (by rw [FU_eq]; omega) (fun j hj => by
    have hs := tmod_small (aZ l0 (i * n + j)) 64 (by omega)
    have hs : ((aZ l0 (i * n + j)).tmod 64).natAbs < 64 := hs
    unfold T_w14_RefineScales_b13
    dsimp only
    rw [hN, cond_t (by rw [decide_eq_true_eq]; omega), wrIdx hi hj (by omega)]
    simp only [Option.bind_some]
    rw [pickm h0, Option.bind_some, nf_whl (aZ_s l0 _), app_le (by rw [whlL_len]; simp; omega), Option.bind_some, whlL_snoc (aZ l0)]
    by_cases c : j < i
    · rw [cond_t (by rw [decide_eq_true_eq]; omega), nf_whl (by omega), sixty, app_le (by simp; omega)]
      simp only [Option.bind_some]
      rw [wrU (by omega), List.append_assoc, Nat.min_eq_left (Nat.le_of_lt c), Nat.min_eq_left (show j + 1 ≤ i by omega), ← map_range_snoc (G := lE (aZ l0) n i)]; rfl
    · rw [cond_f (by rw [decide_eq_false_iff_not]; omega)]
      simp only [Option.bind_some]
      rw [wrU (by omega), Nat.min_eq_right (by omega), Nat.min_eq_right (by omega)]; rfl) (by
    unfold T_w14_RefineScales_b13
    dsimp only
    rw [hN, cond_f (by rw [decide_eq_false_iff_not]; omega), Nat.min_eq_right (Nat.le_of_lt hi), Nat.succ_mul]; rfl)
  rw [Nat.zero_min] at this
  simpa using this
include h1 h2
theorem rows_loop {t : Nat} (ht : t < 41) : iter (T_w14_RefineScales_b11 ((l2.length : Nat) : Int) ((l1.length : Nat) : Int) l0 l1 l2 (pow2F ((t : Int) - 20))) FU (0, [], [], [], [], [], [], []) =
    some (whlL (aZ l1) n, whlL (aZ l2) n, scL t (aZ l1) n, scL t (aZ l2) n, Lr (aZ l0) n n, whlL (dZ (aZ l0) n) n, whlL (aZ l0) (n * n)) := by
  have hnn : n * n ≤ 4 * 4 := Nat.mul_le_mul n4 n4
  have nl1 : n ≤ l1.length := by split at hN <;> split at hN <;> omega
  have nl2 : n ≤ l2.length := by split at hN <;> split at hN <;> omega
  have := iter_nat (b := T_w14_RefineScales_b11 ((l2.length : Nat) : Int) ((l1.length : Nat) : Int) l0 l1 l2 (pow2F ((t : Int) - 20))) (fun i => (((i : Nat) : Int), whlL (aZ l1) i, whlL (aZ l2) i, scL t (aZ l1) i, scL t (aZ l2) i, Lr (aZ l0) n i, whlL (dZ (aZ l0) n) i, whlL (aZ l0) (i * n))) (o := (whlL (aZ l1) n, whlL (aZ l2) n, scL t (aZ l1) n, scL t (aZ l2) n, Lr (aZ l0) n n, whlL (dZ (aZ l0) n) n, whlL (aZ l0) (n * n))) n (by rw [FU_eq]; omega) (fun i hi => by
    have hin : i * n + n ≤ n * n := by rw [← Nat.succ_mul]; exact Nat.mul_le_mul_right _ hi
    have hk : i * n + i < (i + 1) * n := by rw [Nat.succ_mul]; omega
    have b1 := getD_32 h1 i
    have b2 := getD_32 h2 i
    unfold T_w14_RefineScales_b11
    dsimp only
    rw [hN, cond_t (by rw [decide_eq_true_eq]; omega), row_loop h0 n4 hN hi, Option.bind_some]
    dsimp only
    rw [wrIdx hi hi (by omega), at_getD 0 (by rw [whlL_len]; exact hk), at_getD 0 (show i < l1.length by omega), at_getD 0 (show i < l2.length by omega), whlL_at hk]
    simp only [Option.bind_some]
    have e1 : IntKind.i64.wrap (1 + (i : Int)) = 1 + (i : Int) := wrI (by omega) (by omega)
    have x1 : (IntKind.i64.wrap (l1.getD i 0)).tmod 1048576 = aZ l1 i := by rw [wrI (by omega) (by omega)]; rfl
    have x2 : (IntKind.i64.wrap (l2.getD i 0)).tmod 1048576 = aZ l2 i := by rw [wrI (by omega) (by omega)]; rfl
    rw [e1, x1, x2, nf_whl (show (1 + (i : Int)).natAbs < 9007199254740992 by omega), nf_whl (aZ_s l1 i), nf_whl (aZ_s l2 i), dE_t (by omega) (aZ_b l0 _), mul_whl ht (aZ_s l1 i), mul_whl ht (aZ_s l2 i)]
    rw [app_le (by rw [whlL_len]; simp; omega), Option.bind_some, app_le (by rw [whlL_len]; simp; omega), Option.bind_some, app_le (by rw [whlL_len]; simp; omega), Option.bind_some, app_le (by rw [scL_len]; simp; omega), Option.bind_some, app_le (by rw [scL_len]; simp; omega), Option.bind_some, wrU (by omega), whlL_snoc (dZ (aZ l0) n), whlL_snoc (aZ l1), whlL_snoc (aZ l2)]
    have s1 : scL t (aZ l1) i ++ [sW t (aZ l1 i)] = scL t (aZ l1) (i + 1) := map_range_snoc (G := fun i => sW t (aZ l1 i))
    have s2 : scL t (aZ l2) i ++ [sW t (aZ l2 i)] = scL t (aZ l2) (i + 1) := map_range_snoc (G := fun i => sW t (aZ l2 i))
    rw [s1, s2]) (by
    unfold T_w14_RefineScales_b11
    dsimp only
    rw [hN, cond_f (by rw [decide_eq_false_iff_not]; omega)])
  rw [Nat.zero_mul] at this
  exact this
end
theorem scales14 {l0 l1 l2 : List Int} {q : Int} (h0 : ∀ v ∈ l0, -2147483648 ≤ v ∧ v ≤ 2147483647) (h1 : ∀ v ∈ l1, -2147483648 ≤ v ∧ v ≤ 2147483647) (h2 : ∀ v ∈ l2, -2147483648 ≤ v ∧ v ≤ 2147483647) : T_w14_RefineScales l0 l1 l2 q = some true := by
  unfold T_w14_RefineScales
  rw [awake14]
  simp only [Option.bind_some, Bool.not_true, cF]
  obtain ⟨n, hN, n4⟩ : ∃ n : Nat, (if (4 : Int) < (if ((l2.length : Nat) : Int) < ((l1.length : Nat) : Int) then ((l2.length : Nat) : Int) else ((l1.length : Nat) : Int)) then (4 : Int) else (if ((l2.length : Nat) : Int) < ((l1.length : Nat) : Int) then ((l2.length : Nat) : Int) else ((l1.length : Nat) : Int))) = (n : Int) ∧ n ≤ 4 := by
    refine ⟨min 4 (min l2.length l1.length), ?_, by omega⟩
    by_cases c : ((l2.length : Nat) : Int) < ((l1.length : Nat) : Int)
    · rw [if_pos c]
      by_cases d : (4 : Int) < ((l2.length : Nat) : Int)
      · rw [if_pos d]; omega
      · rw [if_neg d]; omega
    · rw [if_neg c]
      by_cases d : (4 : Int) < ((l1.length : Nat) : Int)
      · rw [if_pos d]; omega
      · rw [if_neg d]; omega
  rw [hN]
  by_cases n0 : n = 0
  · rw [cond_t (by rw [beq_iff_eq]; omega)]
  · rw [cond_f (by rw [beq_eq_false_iff_ne]; omega)]
    have hnn : n * n ≤ 4 * 4 := Nat.mul_le_mul n4 n4
    obtain ⟨t, ht, hp⟩ := pick_t q (n := 41) (by omega) (by omega)
    have hp : T_k_Pick q 41 = some (t : Int) := hp
    rw [hp, Option.bind_some]
    have hpow := pows14 t ht
    obtain ⟨t5, e5, hpow⟩ := Option.bind_eq_some_iff.1 hpow
    rw [e5, Option.bind_some, hpow, Option.bind_some, show List.map nf [] = ([] : List Nat) from rfl, rows_loop h0 h1 h2 n4 hN ht, Option.bind_some]
    dsimp only
    have sa : ∀ i, i < n * n → (aZ l0 i).natAbs < 9007199254740992 := fun i _ => aZ_s l0 i
    have sx : ∀ i, i < n → (aZ l1 i).natAbs < 9007199254740992 := fun i _ => aZ_s l1 i
    have sb : ∀ i, i < n → (aZ l2 i).natAbs < 9007199254740992 := fun i _ => aZ_s l2 i
    have sz : ∀ i, i < n → (aZ l2 i - sumZ (fun j => aZ l0 (i * n + j) * aZ l1 j) n).natAbs < 9007199254740992 := fun i _ => by
      have := sumZ_le (z := fun j => aZ l0 (i * n + j) * aZ l1 j) (P := 1099511627776) (n := n) fun j _ => by
        rw [Int.natAbs_mul]
        exact Nat.le_trans (Nat.mul_le_mul (Nat.le_of_lt (aZ_b l0 _)) (Nat.le_of_lt (aZ_b l1 _))) (by decide)
      have h2 := aZ_b l2 i
      have h3 : n * 1099511627776 ≤ 4 * 1099511627776 := Nat.mul_le_mul_right _ n4
      omega
    have L1 := left_sc (t := 20) (by omega) (by omega) sa sx sb sz
    rw [scL_whl, scL_whl, scL_whl] at L1
    have L2 := left_sc ht (by omega) sa sx sb sz
    rw [xleft_t n n (by rw [whlL_len]; omega) (by rw [whlL_len]; omega) (by rw [whlL_len]; omega), L1, Option.bind_some]
    dsimp only
    rw [xleft_t n n (by rw [whlL_len]; omega) (by rw [scL_len]; omega) (by rw [scL_len]; omega), L2, Option.bind_some]
    dsimp only
    obtain ⟨y, y', r1, r2, ly, ey⟩ := step_sc ht (a := aZ l0) (x := aZ l1) (b := aZ l2) (n := n) n4 (aZ_b l0) (aZ_b l1) (aZ_b l2)
    rw [r1, Option.bind_some]
    dsimp only
    rw [r2, Option.bind_some]
    dsimp only
    rw [cond_t (by rfl), cond_t (by rfl), cond_t (by rfl), Option.bind_some, cond_f (by rfl), vscale_t _ (by rw [whlL_len]; omega), Option.bind_some, sameReals_t (by simp [whlL_len]; omega), Option.bind_some]
    have e1 : ((List.range (whlL (fun i => aZ l2 i - sumZ (fun j => aZ l0 (i * n + j) * aZ l1 j) n) n).length).map fun i => fmul (pow2F ((t : Int) - 20)) ((whlL (fun i => aZ l2 i - sumZ (fun j => aZ l0 (i * n + j) * aZ l1 j) n) n).getD i 0)) = scL t (fun i => aZ l2 i - sumZ (fun j => aZ l0 (i * n + j) * aZ l1 j) n) n := by
      rw [whlL_len]
      unfold scL
      refine List.map_congr_left fun i hi => ?_
      have hi := List.mem_range.1 hi
      rw [whlL_at hi, fmul_comm, mul_whl ht (sz i hi)]
    rw [e1, beq_self_eq_true, cT, vscale_t _ (by omega), Option.bind_some, sameReals_t (by simp; omega), Option.bind_some, ly, ey]
    have e2 : ((List.range n).map fun i => fmul (pow2F ((t : Int) - 20)) (y.getD i 0)) = (List.range n).map (fun i => fmul (y.getD i 0) (pow2F ((t : Int) - 20))) := List.map_congr_left fun i _ => fmul_comm _ _
    rw [e2, beq_self_eq_true]
section
variable {N : Nums} {P : Program} (H : AllOk N P)
include H
theorem scales14_f {q : Int} {sa sb sc : Option Addr} {na ma nb mb nc mc : Nat} {la lb lc : List Int} {w : World} (hA : rdA (la.map (Value.int .i32)) sa na ma w) (hB : rdA (lb.map (Value.int .i32)) sb nb mb w) (hC : rdA (lc.map (Value.int .i32)) sc nc mc w)
    (wa : ∀ y ∈ la, (Lit.int .i32 y).wf = true) (wb : ∀ y ∈ lb, (Lit.int .i32 y).wf = true) (wc : ∀ y ∈ lc, (Lit.int .i32 y).wf = true) (hG : tab64 N.g_1 w) :
    CallsX P N.f_w14_RefineScales #[.agg #[.slice sa na ma, .slice sb nb mb, .slice sc nc mc, .int .i64 q]] w fun v w' => v = .bool true ∧ ∃ M, St w w' M := by
  have fits : ∀ {l : List Int}, (∀ y ∈ l, (Lit.int .i32 y).wf = true) → ∀ v ∈ l, -2147483648 ≤ v ∧ v ≤ 2147483647 := fun h v hv => by
    have := h v hv
    simp [Lit.wf, IntKind.min, IntKind.max, IntKind.signed, IntKind.bits] at this
    omega
  have hS := ((((Ho.start w).arg own_nil hG).arg (own_cons rfl own_nil) hC).arg (own_cons rfl (own_cons rfl own_nil)) hB).arg (own_cons rfl (own_cons rfl (own_cons rfl own_nil))) hA
  exact wk_w14_RefineScales H hS (Ent.rd mp0) (Ent.rd mp1) (Ent.rd mp2) (Ent.rd mp3) (scales14 (fits wa) (fits wb) (fits wc)) fun w1 h => ⟨rfl, h.some_old⟩
end
end Go.Eng
