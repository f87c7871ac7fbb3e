/-
  The law LowerBack: what Times puts together of small whole numbers Factor takes apart as it was. No condition.
-/
import Derived.Test.YtkbmapgioggadaaLw12c
import Derived.Test.YtkbmapgioggadaaWhl3
set_option linter.unusedVariables false
set_option linter.unusedSimpArgs false
set_option linter.unnecessarySimpa false
set_option linter.unusedSectionVars false
set_option maxRecDepth 100000
set_option maxHeartbeats 4000000
set_option exponentiation.threshold 5000
namespace Go.Eng
open Go

/-! ### Sixteenths -/

theorem sval_abs (x : Nat) : (sval x).natAbs = vmag (magF x) := by
  unfold sval
  cases negF x <;> simp
theorem gr_wv {x : Nat} {z : Int} {b : Nat} (h : Wv x z) (hb : z.natAbs ≤ 2 ^ b) : Gr 1074 (1074 + b) x := by
  have e : vmag (magF x) = z.natAbs * 2 ^ 1074 := by
    rw [← sval_abs, h.2, Int.natAbs_mul]; rfl
  refine ⟨h.1, by rw [e]; exact Nat.dvd_mul_left _ _, ?_⟩
  rw [e, Nat.pow_add, Nat.mul_comm]
  exact Nat.mul_le_mul_left _ hb
theorem whl_lt (z : Int) : whl z < 18446744073709551616 := nearest_lt _ _ _

/-- y is the sixteenth of a float that stands for z. -/
def Qv (z : Int) (y : Nat) : Prop := ∃ x, Wv x z ∧ Sc (-4) x y ∧ x < 18446744073709551616 ∧ y < 18446744073709551616
/-- y is the sixteenth of the float of z. -/
structure Qw (z : Int) (y : Nat) : Prop where
  sc : Sc (-4) (whl z) y
  ly : y < 18446744073709551616

theorem qv_mul {a z : Int} {y : Nat} (ha : a.natAbs ≤ 4) (hz : z.natAbs ≤ 65536) (h : Qv z y) : Qv (a * z) (fmul (whl a) y) := by
  obtain ⟨x, h1, h2, h3, h4⟩ := h
  have hw : Wv (whl a) a := whl_wv (by omega)
  have hb := mul_bound ha hz
  have g := sc_fmulG (K' := 1074) (M' := 1093) (gr_wv (b := 2) hw ha) (gr_wv (b := 16) h1 hz) h2 (by omega) (by omega) (by omega) (by omega) (by omega) (by omega)
  exact ⟨fmul (whl a) x, fmul_whl hw h1 (by omega), g.2, fmul_lt hw.1 h1.1, fmul_lt hw.1 (sc_fin h2 h1.1)⟩
theorem qw_add {z v : Int} {s y : Nat} (hz : z.natAbs ≤ 1048576) (hv : v.natAbs ≤ 1048576) (hs : Qw z s) (hy : Qv v y) : Qw (z + v) (fadd s y) := by
  obtain ⟨x, h1, h2, h3, h4⟩ := hy
  have hw : Wv (whl z) z := whl_wv (by omega)
  have g := sc_fadd (gr_wv (b := 20) hw hz) (gr_wv (b := 20) h1 hv) hs.sc h2 (whl_lt z) h3 hs.ly h4 (by omega) (by omega) (by omega) (by omega)
  rw [fadd_whl' (by omega) h1] at g
  exact ⟨g.2, fadd_lt (sc_fin hs.sc hw.1) (sc_fin h2 h1.1)⟩
theorem qw_sub {z v : Int} {s y : Nat} (hz : z.natAbs ≤ 1048576) (hv : v.natAbs ≤ 1048576) (hs : Qw z s) (hy : Qv v y) : Qw (z - v) (fsub s y) := by
  obtain ⟨x, h1, h2, h3, h4⟩ := hy
  have hw : Wv (whl z) z := whl_wv (by omega)
  have g := sc_fsub (gr_wv (b := 20) hw hz) (gr_wv (b := 20) h1 hv) hs.sc h2 (whl_lt z) h3 hs.ly h4 (by omega) (by omega) (by omega) (by omega)
  rw [fsub_whl' (by omega) h1] at g
  exact ⟨g.2, fsub_lt (sc_fin hs.sc hw.1) (sc_fin h2 h1.1)⟩

/-! ### The factor -/

def dZ (e : Nat → Nat) (k : Nat) : Int := ((2 ^ e k : Nat) : Int)
def LB (f : Nat → Int) (n : Nat) : List Nat := (List.range (tri n)).map fun i => whl (f i)
def DB (e : Nat → Nat) (n : Nat) : List Nat := (List.range n).map fun i => pow2F ((e i : Int) - 4)
def lZ (f : Nat → Int) (i k : Nat) : Int := if i = k then 1 else f (tri i + k)
/-- The whole number of sixteenths at a place. -/
def eZ (f : Nat → Int) (e : Nat → Nat) (i j : Nat) : Nat → Int := dotZ (lZ f j) (fun k => lZ f i k * dZ e k)

theorem rangeN_getD {f : Nat → Nat} {n i : Nat} (h : i < n) : ((List.range n).map f).getD i 0 = f i := by
  simp [List.getD_eq_getElem?_getD, h]

section
variable {f : Nat → Int} (hf : ∀ i, (f i).natAbs ≤ 4) {e : Nat → Nat} (he : ∀ i, e i < 9) {n : Nat} (hn : n ≤ 9)
include hf he hn

theorem dZ_q (k : Nat) : Qw (dZ e k) (pow2F ((e k : Int) - 4)) ∧ 1 ≤ (dZ e k).natAbs ∧ (dZ e k).natAbs ≤ 256 ∧ fdiv (whl 0) (whl (dZ e k)) = whl 0 := by
  have all : ∀ i : Nat, i < 9 → (4503599627370496 ≤ magF (whl ((2 ^ i : Nat) : Int)) ∧ magF (whl ((2 ^ i : Nat) : Int)) < 9218868437227405312 ∧ 4503599627370496 ≤ magF (pow2F ((i : Int) - 4)) ∧ magF (pow2F ((i : Int) - 4)) < 9218868437227405312 ∧ negF (pow2F ((i : Int) - 4)) = negF (whl ((2 ^ i : Nat) : Int)) ∧ (magF (pow2F ((i : Int) - 4)) : Int) = (magF (whl ((2 ^ i : Nat) : Int)) : Int) + (-4) * 4503599627370496) ∧ pow2F ((i : Int) - 4) < 18446744073709551616 ∧ 1 ≤ ((2 ^ i : Nat) : Int).natAbs ∧ ((2 ^ i : Nat) : Int).natAbs ≤ 256 ∧ fdiv (whl 0) (whl ((2 ^ i : Nat) : Int)) = whl 0 := by decide +kernel
  obtain ⟨h1, h2, h3, h4, h5⟩ := all (e k) (he k)
  exact ⟨⟨.inr h1, h2⟩, h3, h4, h5⟩
theorem lZ_bound (i k : Nat) : (lZ f i k).natAbs ≤ 4 := by
  unfold lZ
  split
  · decide
  · exact hf _
theorem LB_len : (LB f n).length = tri n := by simp [LB]
theorem DB_len : (DB e n).length = n := by simp [DB]
theorem LB_at {i k : Nat} (h1 : k < i) (h2 : i < n) : lowG (LB f n) i k = whl (lZ f i k) := by
  have := tri_lt h1 h2
  unfold lowG LB lZ
  rw [rangeN_getD this, if_neg (by omega)]
theorem LB_at1 {i k : Nat} (h1 : k ≤ i) (h2 : i < n) : low1 (LB f n) i k = whl (lZ f i k) := by
  unfold low1
  by_cases c : i = k
  · subst c
    rw [if_pos rfl]
    unfold lZ
    rw [if_pos rfl]; decide +kernel
  · rw [if_neg c]; exact LB_at hf he hn (by omega) h2
theorem DB_at {k : Nat} (h : k < n) : Qw (dZ e k) ((DB e n).getD k 0) := by
  unfold DB
  rw [rangeN_getD (f := fun i => pow2F ((e i : Int) - 4)) h]
  exact (dZ_q hf he hn k).1
theorem term_q (i j k : Nat) : (lZ f i k * dZ e k).natAbs ≤ 1024 ∧ (lZ f j k * (lZ f i k * dZ e k)).natAbs ≤ 4096 := by
  have h1 := mul_bound (lZ_bound hf he hn i k) (dZ_q hf he hn k).2.2.1
  exact ⟨h1, mul_bound (lZ_bound hf he hn j k) h1⟩
theorem eZ_bound (i j m : Nat) (hm : m ≤ 9) : (eZ f e i j m).natAbs ≤ 36864 := by
  have := dotZ_bound (A := lZ f j) (B := fun k => lZ f i k * dZ e k) (M := 4096) (n := m) fun k _ => (term_q hf he hn i j k).2
  unfold eZ
  have h2 : m * 4096 ≤ 9 * 4096 := Nat.mul_le_mul_right _ hm
  omega
theorem q_of {z : Int} {y : Nat} (hz : z.natAbs ≤ 65536) (h : Qw z y) : Qv z y := ⟨whl z, whl_wv (by omega), h.sc, whl_lt z, h.ly⟩

theorem ent_q {i j : Nat} (hi : i < n) (hj : j ≤ i) : ∀ m, m ≤ j + 1 → Qw (eZ f e i j m) (entN (LB f n) (DB e n) i j m)
  | 0, _ => by
    show Qw 0 0
    exact ⟨.inl ⟨by decide +kernel, by decide +kernel⟩, by decide +kernel⟩
  | m + 1, hm => by
    have ih := ent_q hi hj m (by omega)
    have hd := DB_at hf he hn (k := m) (by omega)
    unfold entN
    rw [LB_at1 hf he hn (by omega) hi, LB_at1 hf he hn (by omega) (show j < n by omega), fmul_comm _ (whl (lZ f j m))]
    obtain ⟨t1, t2⟩ := term_q hf he hn i j m
    have q1 := qv_mul (lZ_bound hf he hn i m) (by have := (dZ_q hf he hn m).2.2.1; omega) (q_of hf he hn (by have := (dZ_q hf he hn m).2.2.1; omega) hd)
    have q2 := qv_mul (lZ_bound hf he hn j m) (by omega) q1
    have b := eZ_bound hf he hn i j m (by omega)
    show Qw (eZ f e i j m + lZ f j m * (lZ f i m * dZ e m)) _
    exact qw_add (by omega) (by omega) ih q2

/-- What is left of an entry. -/
theorem sub_q {i j s : Nat} {z : Int} (hi : i < n) (hj : j ≤ i) (hz : z.natAbs ≤ 65536) (hs : Qw z s) : ∀ m, m ≤ j → Qw (z - eZ f e i j m) (subS (fun k => lowG (LB f n) i k) (vsN (LB f n) (DB e n) j) s m)
  | 0, _ => by
    have : z - eZ f e i j 0 = z := Int.sub_zero z
    rw [this]; exact hs
  | m + 1, hm => by
    have ih := sub_q hi hj hz hs m (by omega)
    have hd := DB_at hf he hn (k := m) (by omega)
    unfold subS vsN
    rw [LB_at hf he hn (show m < i by omega) hi, LB_at hf he hn (show m < j by omega) (by omega)]
    obtain ⟨t1, t2⟩ := term_q hf he hn j i m
    have q1 := qv_mul (lZ_bound hf he hn j m) (by have := (dZ_q hf he hn m).2.2.1; omega) (q_of hf he hn (by have := (dZ_q hf he hn m).2.2.1; omega) hd)
    have q2 := qv_mul (lZ_bound hf he hn i m) (by omega) q1
    have b := eZ_bound hf he hn i j m (by omega)
    have := qw_sub (by omega) (by omega) ih q2
    have e1 : z - eZ f e i j (m + 1) = z - eZ f e i j m - lZ f i m * (lZ f j m * dZ e m) := by
      show z - (eZ f e i j m + lZ f j m * (lZ f i m * dZ e m)) = _
      rw [Int.mul_left_comm]; omega
    rw [e1]; exact this
theorem col_q {i j : Nat} {a : List Nat} (hi : i < n) (hj : j ≤ i) (ha : a.getD (i * n + j) 0 = entN (LB f n) (DB e n) i j (j + 1)) : Qw (lZ f i j * dZ e j) (colS a n (LB f n) (DB e n) i j) := by
  have h1 := ent_q hf he hn hi hj (j + 1) (Nat.le_refl _)
  have hb := eZ_bound hf he hn i j (j + 1) (by omega)
  unfold colS
  rw [ha]
  have := sub_q hf he hn hi hj (by omega) h1 j (Nat.le_refl _)
  have e1 : eZ f e i j (j + 1) - eZ f e i j j = lZ f i j * dZ e j := by
    show eZ f e i j j + lZ f j j * (lZ f i j * dZ e j) - eZ f e i j j = _
    have : lZ f j j = 1 := by unfold lZ; rw [if_pos rfl]
    rw [this, Int.one_mul]; omega
  rw [e1] at this
  exact this

theorem back_fac {a : List Nat} (ha : ∀ i j, j ≤ i → i < n → a.getD (i * n + j) 0 = entN (LB f n) (DB e n) i j (j + 1)) : Fac a n (LB f n) (DB e n) := by
  have dw : ∀ k, Wv (whl (dZ e k)) (dZ e k) := fun k => whl_wv (by have := (dZ_q hf he hn k).2.2.1; omega)
  have dpos : ∀ k, 0 < dZ e k := fun k => by unfold dZ; have := Nat.two_pow_pos (e k); omega
  have d0 : ∀ k, magF (whl (dZ e k)) ≠ 0 := fun k h => by
    have := (dw k).2
    have z : sval (whl (dZ e k)) = 0 := (sval_zero _).2 h
    rw [z] at this
    have := Int.mul_pos (dpos k) big_pos
    omega
  refine ⟨LB_len hf he hn, DB_len hf he hn, fun j hj => ?_, fun i j h1 h2 h3 => ?_⟩
  · have hq := col_q hf he hn hj (Nat.le_refl j) (ha j j (Nat.le_refl j) hj)
    have e1 : lZ f j j * dZ e j = dZ e j := by unfold lZ; rw [if_pos rfl, Int.one_mul]
    rw [e1] at hq
    have hd := DB_at hf he hn hj
    have ee := sc_uniq hd.sc hq.sc hd.ly hq.ly
    have fin := sc_fin hd.sc (dw j).1
    refine ⟨ee, ?_, by simpa [finQ] using fin⟩
    rw [fgt_zero, sc_neg hd.sc]
    have n0 : magF ((DB e n).getD j 0) ≠ 0 := fun h => d0 j ((sc_zero hd.sc).1 h)
    have neg : negF (whl (dZ e j)) = false := by
      obtain ⟨_, _, _, _, s⟩ := wv_read (dw j)
      have := dpos j
      rw [s (by omega)]; simp; omega
    rw [neg, decide_eq_true (Nat.le_of_lt fin), decide_eq_true n0]; rfl
  · have hq := col_q hf he hn h2 (show j ≤ i by omega) (ha i j (by omega) h2)
    have hd := DB_at hf he hn h3
    have tb := (term_q hf he hn i j j).1
    have hw : Wv (whl (lZ f i j * dZ e j)) (lZ f i j * dZ e j) := whl_wv (by omega)
    rw [LB_at hf he hn h1 h2, fdiv_sc hq.sc hd.sc hw.1 (dw j).1 (d0 j)]
    have lb := lZ_bound hf he hn i j
    refine ⟨?_, ?_⟩
    · by_cases c : lZ f i j = 0
      · rw [c, Int.zero_mul]; exact (dZ_q hf he hn j).2.2.2.symm
      · have := dpos j
        exact (fdiv_whl hw (dw j) (by omega) c (by omega)).symm
    · have := (whl_wv (z := lZ f i j) (by omega)).1
      simpa [finQ] using this
end

/-! ### The matrix that Times puts together -/

def symE (l d : List Nat) (i j : Nat) : Nat := if j ≤ i then entN l d i j (j + 1) else entN l d j i (i + 1)
section
variable {l d : List Nat} {n : Nat}
theorem putE_at {i j a b : Nat} {t : List Nat} (hi : i < n) (hj : j ≤ i) (ha : a < n) (hb : b < n) (ht : t.length = n * n) :
    (putE l d n i j t).getD (a * n + b) 0 = if (a = i ∧ b = j) ∨ (a = j ∧ b = i) then symE l d a b else t.getD (a * n + b) 0 := by
  have x1 := idxL hi (show j < n by omega)
  have x2 := idxL (show j < n by omega) hi
  unfold putE
  rw [set_getD (by rw [List.length_set, ht]; exact x2), set_getD (by rw [ht]; exact x1)]
  by_cases c1 : a = j ∧ b = i
  · obtain ⟨rfl, rfl⟩ := c1
    rw [if_pos rfl, if_pos (.inr ⟨rfl, rfl⟩)]
    unfold symE
    by_cases e : b ≤ a
    · have : a = b := by omega
      subst this; rw [if_pos (Nat.le_refl _)]
    · rw [if_neg e]
  · rw [if_neg (fun h => c1 (by have := idx_inj' hb hi h; exact this))]
    by_cases c2 : a = i ∧ b = j
    · obtain ⟨rfl, rfl⟩ := c2
      rw [if_pos rfl, if_pos (.inl ⟨rfl, rfl⟩)]
      unfold symE; rw [if_pos hj]
    · rw [if_neg (fun h => c2 (by have := idx_inj' hb (show j < n by omega) h; exact this)), if_neg (by omega)]
theorem rowE_at {i a b : Nat} {t : List Nat} (hi : i < n) (ha : a < n) (hb : b < n) (ht : t.length = n * n) : ∀ j, j ≤ i + 1 →
    (rowE l d n i t j).getD (a * n + b) 0 = if (a = i ∧ b < j) ∨ (b = i ∧ a < j) then symE l d a b else t.getD (a * n + b) 0
  | 0, _ => by rw [if_neg (by omega)]; rfl
  | j + 1, hj => by
    unfold rowE
    rw [putE_at hi (by omega) ha hb (by rw [rowE_len, ht]), rowE_at hi ha hb ht j (by omega)]
    by_cases c : (a = i ∧ b = j) ∨ (a = j ∧ b = i)
    · rw [if_pos c, if_pos (by omega)]
    · rw [if_neg c]
      by_cases c2 : (a = i ∧ b < j) ∨ (b = i ∧ a < j)
      · rw [if_pos c2, if_pos (by omega)]
      · rw [if_neg c2, if_neg (by omega)]
theorem allE_at {a b : Nat} {t : List Nat} (ha : a < n) (hb : b < n) (ht : t.length = n * n) : ∀ i, i ≤ n →
    (allE l d n t i).getD (a * n + b) 0 = if a < i ∧ b < i then symE l d a b else t.getD (a * n + b) 0
  | 0, _ => by rw [if_neg (by omega)]; rfl
  | i + 1, hi => by
    unfold allE
    rw [rowE_at (by omega) ha hb (by rw [allE_len, ht]) (i + 1) (Nat.le_refl _), allE_at ha hb ht i (by omega)]
    by_cases c : (a = i ∧ b < i + 1) ∨ (b = i ∧ a < i + 1)
    · rw [if_pos c, if_pos (by omega)]
    · rw [if_neg c]
      by_cases c2 : a < i ∧ b < i
      · rw [if_pos c2, if_pos (by omega)]
      · rw [if_neg c2, if_neg (by omega)]
end

theorem times_of {l d : List Nat} {n : Nat} (hn : n ≤ 48) (hl : l.length = tri n) (hd : d.length = n) : T_lower_Times n l d = some ((n : Int), (n : Int), allE l d n (List.replicate (n * n) 0) n, 0) := by
  have hnn : n * n ≤ 2304 := Nat.le_trans (Nat.mul_le_mul hn hn) (by omega)
  rcases right_cases (n : Int) l d with ⟨hR, m, hq, _, _, _⟩ | hR
  · unfold T_lower_Times
    rw [hR, Option.bind_some, cond_f (by rfl), make_t]
    have e : ((n : Int) * (n : Int)).toNat = n * n := by
      have : ((n * n : Nat) : Int) = (n : Int) * n := by simp
      omega
    rw [mayB_mk hn hn, e]
    simp only [if_true, Option.bind_some]
    rw [allE_t hn hl hd (by simp)]; rfl
  · exfalso
    unfold T_lower_Right at hR
    rw [cond_t (by simp), cond_t (by simp; omega)] at hR
    simp only [Option.bind_some, triInt (show n ≤ 4096 by omega), hl, hd] at hR
    simp at hR

/-! ### The law -/

theorem ldexp4_t : ∀ k : Nat, k < 9 → T_math_Ldexp (nf 4607182418800017408) (IntKind.i64.wrap ((k : Int) - 4)) = some (pow2F ((k : Int) - 4)) := by decide +kernel

def pickV (x : Int) : Int := (T_girderkit_Pick x 9).getD 0
theorem pickV_t (x : Int) : T_girderkit_Pick x 9 = some (pickV x) ∧ 0 ≤ pickV x ∧ pickV x < 9 := by
  obtain ⟨k, hk, h⟩ := pick_t x (n := 9) (by omega) (by omega)
  have h' : T_girderkit_Pick x 9 = some (k : Int) := h
  unfold pickV
  rw [h']
  exact ⟨rfl, by simp, by simp; omega⟩
def fB (l : List Int) (i : Nat) : Int := if 0 < l.length then pickV (IntKind.i64.wrap (l.getD (i % l.length) 0 + (i : Int))) - 4 else 0
theorem fB_bound (l : List Int) (i : Nat) : (fB l i).natAbs ≤ 4 := by
  unfold fB
  split
  · have := (pickV_t (IntKind.i64.wrap (l.getD (i % l.length) 0 + (i : Int)))).2
    omega
  · decide
def eB (l : List Int) (i : Nat) : Nat := (pickV (l.getD i 0)).toNat
theorem eB_bound (l : List Int) (i : Nat) : eB l i < 9 := by
  have := (pickV_t (l.getD i 0)).2
  unfold eB; omega

theorem low_t {l : List Int} {t : Int} {n : Nat} (hn : n ≤ 9) (ht : (if 9 < t then 9 else t) = (n : Int)) : iter (T_girderlaw12_LowerBack_b2 t l) FU (0, List.map nf []) = some (LB (fB l) n) := by
  have h1128 : tri n ≤ 1128 := tri_le (by omega)
  have := iter_nat (b := T_girderlaw12_LowerBack_b2 t l) (fun k => (((k : Nat) : Int), (List.range k).map fun i => whl (fB l i))) (o := LB (fB l) n) (tri n) (by rw [FU_eq]; omega) (fun k hk => by
    have hb := fB_bound l k
    have tail : ((some [(nf (FloatKind.f64.nearest (fB l k)))]).bind fun t12 => (appL ((List.range k).map fun i => whl (fB l i)) t12).bind fun t13 => some (Sum.inl ((IntKind.i64.wrap ((k : Int) + 1)), t13)) : Option ((Int × List Nat) ⊕ (List Nat))) = some (.inl (((k + 1 : Nat) : Int), (List.range (k + 1)).map fun i => whl (fB l i))) := by
      rw [Option.bind_some, nf_whl (by omega), app_le (by simp; omega), Option.bind_some, wrU (by omega), ← map_range_snoc]
    unfold T_girderlaw12_LowerBack_b2
    dsimp only
    rw [ht, triInt (by omega), cond_t (by simp; omega), Option.bind_some]
    by_cases h0 : 0 < l.length
    · have hm : k % l.length < l.length := Nat.mod_lt _ h0
      have e1 : ((k : Int)).tmod ((l.length : Nat) : Int) = ((k % l.length : Nat) : Int) := rfl
      have hz : nz ((l.length : Nat) : Int) = some () := by unfold nz; rw [if_pos (by omega)]
      have hp := (pickV_t (IntKind.i64.wrap (l.getD (k % l.length) 0 + (k : Int)))).1
      have hpb := (pickV_t (IntKind.i64.wrap (l.getD (k % l.length) 0 + (k : Int)))).2
      have hfb : fB l k = pickV (IntKind.i64.wrap (l.getD (k % l.length) 0 + (k : Int))) - 4 := by unfold fB; rw [if_pos h0]
      rw [cond_t (by simpa using h0), Option.bind_some, hz, Option.bind_some, e1, at_getD 0 hm, Option.bind_some, hp, Option.bind_some, Option.bind_some, wrI (n := pickV (IntKind.i64.wrap (l.getD (k % l.length) 0 + (k : Int))) - 4) (by omega) (by omega), ← hfb]
      exact tail
    · have hfb : fB l k = 0 := by unfold fB; rw [if_neg h0]
      rw [cond_f (by simpa using h0), Option.bind_some, ← hfb]
      exact tail) (by
    unfold T_girderlaw12_LowerBack_b2
    dsimp only
    rw [ht, triInt (by omega), cond_f (by simp)]; rfl)
  exact this
theorem dia_t {l : List Int} {t : Int} {n : Nat} (hn : n ≤ 9) (hl : n ≤ l.length) (ht : (if 9 < t then 9 else t) = (n : Int)) : iter (T_girderlaw12_LowerBack_b4 t l) FU (0, List.map nf []) = some (DB (eB l) n) := by
  have := iter_nat (b := T_girderlaw12_LowerBack_b4 t l) (fun k => (((k : Nat) : Int), (List.range k).map fun i => pow2F ((eB l i : Int) - 4))) (o := DB (eB l) n) n (by rw [FU_eq]; omega) (fun k hk => by
    have hp := (pickV_t (l.getD k 0)).1
    have hpb := (pickV_t (l.getD k 0)).2
    have e1 : pickV (l.getD k 0) = ((eB l k : Nat) : Int) := by unfold eB; omega
    unfold T_girderlaw12_LowerBack_b4
    dsimp only
    rw [ht, cond_t (by simp; omega), at_getD 0 (by omega), Option.bind_some, hp, Option.bind_some, e1, ldexp4_t _ (eB_bound l k), Option.bind_some, Option.bind_some, app_le (by simp; omega), Option.bind_some, wrU (by omega), map_range_snoc (G := fun i => pow2F ((eB l i : Int) - 4))]) (by
    unfold T_girderlaw12_LowerBack_b4
    dsimp only
    rw [ht, cond_f (by simp)]; rfl)
  exact this

theorem back12 (l d : List Int) : T_girderlaw12_LowerBack l d = some true := by
  obtain ⟨n, hn, hnd, ht⟩ : ∃ n : Nat, n ≤ 9 ∧ n ≤ d.length ∧ (if 9 < ((d.length : Nat) : Int) then 9 else ((d.length : Nat) : Int)) = (n : Int) := by
    by_cases c : 9 < d.length
    · exact ⟨9, by omega, by omega, by rw [if_pos (by omega)]; rfl⟩
    · exact ⟨d.length, by omega, by omega, by rw [if_neg (by omega)]⟩
  have hnn : n * n ≤ 81 := Nat.le_trans (Nat.mul_le_mul hn hn) (by omega)
  have h1128 : tri n ≤ 1128 := tri_le (by omega)
  have hf := fB_bound l
  have he := eB_bound d
  have lenL := LB_len hf he hn
  have lenD := DB_len hf he hn
  have cp : ∀ m : List Nat, m.length ≤ 4096 → T_girderkit_CopyReals m = some m := fun m hm => by
    unfold T_girderkit_CopyReals
    simp only [List.map_nil]
    rw [app_le (by simp; omega)]; rfl
  have lenT : (allE (LB (fB l) n) (DB (eB d) n) n (List.replicate (n * n) 0) n).length = n * n := by rw [allE_len]; simp
  have at' : ∀ i j, i < n → j < n → (allE (LB (fB l) n) (DB (eB d) n) n (List.replicate (n * n) 0) n).getD (i * n + j) 0 = symE (LB (fB l) n) (DB (eB d) n) i j := fun i j hi hj => by
    rw [allE_at hi hj (by simp) n (Nat.le_refl _), if_pos ⟨hi, hj⟩]
  have fac : Fac (allE (LB (fB l) n) (DB (eB d) n) n (List.replicate (n * n) 0) n) n (LB (fB l) n) (DB (eB d) n) := back_fac hf he hn fun i j h1 h2 => by
    rw [at' i j h2 (by omega)]
    unfold symE; rw [if_pos h1]
  have entf : ∀ i j, j ≤ i → i < n → finQ (entN (LB (fB l) n) (DB (eB d) n) i j (j + 1)) = true := fun i j h1 h2 => by
    have q := ent_q hf he hn h2 h1 (j + 1) (Nat.le_refl _)
    have b := eZ_bound hf he hn i j (j + 1) (by omega)
    have := sc_fin q.sc (whl_wv (by omega)).1
    simpa [finQ] using this
  have squ : Squ n (allE (LB (fB l) n) (DB (eB d) n) n (List.replicate (n * n) 0) n) := by
    refine ⟨by omega, lenT, fun i j hi hj => ?_, fun p hp => ?_⟩
    · rw [at' i j hi hj, at' j i hj hi]
      unfold symE
      by_cases c1 : j ≤ i
      · by_cases c2 : i ≤ j
        · have : i = j := by omega
          subst this; rfl
        · rw [if_pos c1, if_neg c2]
      · rw [if_neg c1, if_pos (by omega)]
    · rw [lenT] at hp
      have n0 : 0 < n := by
        rcases Nat.eq_zero_or_pos n with h | h
        · rw [h] at hp; omega
        · exact h
      have hi : p / n < n := Nat.div_lt_of_lt_mul hp
      have hj : p % n < n := Nat.mod_lt _ n0
      have e1 : p = p / n * n + p % n := by rw [Nat.mul_comm]; exact (Nat.div_add_mod p n).symm
      rw [e1, at' _ _ hi hj]
      unfold symE
      by_cases c : p % n ≤ p / n
      · rw [if_pos c]; exact entf _ _ c hi
      · rw [if_neg c]; exact entf _ _ (by omega) hj
  unfold T_girderlaw12_LowerBack
  rw [awake12, Option.bind_some, Bool.not_true, cF, Option.bind_some, low_t hn ht, Option.bind_some, dia_t hn hnd ht, Option.bind_some, ht]
  have cf : T_girderkit_CopyFactor (n : Int) (LB (fB l) n) (DB (eB d) n) = some ((n : Int), LB (fB l) n, DB (eB d) n) := by
    unfold T_girderkit_CopyFactor
    rw [cp _ (by omega), Option.bind_some, cp _ (by omega)]; rfl
  have sf : T_girderkit_SameFactor (n : Int) (LB (fB l) n) (DB (eB d) n) (n : Int) (LB (fB l) n) (DB (eB d) n) = some true := by
    unfold T_girderkit_SameFactor
    rw [sameReals_t (by omega), sameReals_t (by omega)]; simp
  rw [cf, Option.bind_some]
  dsimp only
  rw [times_of (by omega) lenL lenD, Option.bind_some]
  dsimp only
  rw [factor_of squ fac, Option.bind_some]
  dsimp only
  rw [sf]; rfl

section
variable {N : Nums} {P : Program} (H : AllOk N P)
include H
theorem back12_f {sa sb : Option Addr} {na ma nb mb : Nat} {la lb : List Int} {w : World} (hA : rdA (la.map (Value.int .i64)) sa na ma w) (hB : rdA (lb.map (Value.int .i64)) sb nb mb w) :
    CallsX P N.f_girderlaw12_LowerBack #[.slice sa na ma, .slice sb nb mb] w fun v w' => v = .bool true ∧ ∃ M, St w w' M := by
  have hS := ((Ho.start w).arg own_nil hB).arg (own_cons rfl own_nil) hA
  exact wk_girderlaw12_LowerBack H hS (Ent.rd mp0) (Ent.rd mp1) (back12 la lb) fun w1 h => ⟨rfl, h.some_old⟩
end
end Go.Eng
