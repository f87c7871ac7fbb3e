/-
  The law SolveWhole is true: of small whole numbers what was multiplied out is solved back. No condition.
-/
import Derived.Test.YtlmndpgfnpleiaaPl13w
import Derived.Test.YtlmndpgfnpleiaaLw13c
import Derived.Test.YtlmndpgfnpleiaaWsl
set_option linter.unusedVariables false
set_option linter.unusedSimpArgs false
set_option linter.unnecessarySimpa false
set_option linter.unusedSectionVars false
set_option maxRecDepth 100000
set_option maxHeartbeats 4000000
set_option exponentiation.threshold 3000
namespace Go.Eng
open Go

theorem push_loop {b : Int × List Nat → Option ((Int × List Nat) ⊕ List Nat)} (G : Nat → Nat) (n : Nat) (hn : n ≤ 4096) (hstep : ∀ k : Nat, k < n → b ((k : Int), (List.range k).map G) = some (.inl (((k + 1 : Nat) : Int), (List.range (k + 1)).map G))) (hstop : b ((n : Int), (List.range n).map G) = some (.inr ((List.range n).map G))) : iter b FU (0, List.map nf []) = some ((List.range n).map G) :=
  iter_nat (b := b) (fun k => (((k : Nat) : Int), (List.range k).map G)) n (by rw [FU_eq]; omega) hstep hstop

/-- A number out of a list. -/
def atZ (l : List Int) (k m : Nat) : Int := (T_girderlaw13_at l (k : Int) (m : Int)).getD 0
theorem atZ_t (l : List Int) (k : Nat) {m : Nat} (h1 : 1 ≤ m) (hm : m ≤ 1000) : T_girderlaw13_at l (k : Int) (m : Int) = some (atZ l k m) ∧ (atZ l k m).natAbs ≤ m := by
  obtain ⟨v, h, h2, h3⟩ := at13_t l k h1 hm
  unfold atZ
  rw [h]
  exact ⟨rfl, by simp only [Option.getD_some]; omega⟩

def lowZ (l : List Int) (i j : Nat) : Int := atZ l (tri i + j) 3
def diagZ (l : List Int) (k : Nat) : Int := if atZ l (3 * k + 1) 50 = 0 then 7 else atZ l (3 * k + 1) 50
def lowL (l : List Int) (n : Nat) : List Nat := (List.range (tri n)).map fun k => whl (atZ l k 3)
def diagL (l : List Int) (n : Nat) : List Nat := (List.range n).map fun k => whl (diagZ l k)
theorem diagZ_b (l : List Int) (k : Nat) : (diagZ l k).natAbs ≤ 50 ∧ diagZ l k ≠ 0 := by
  have := (atZ_t l (3 * k + 1) (m := 50) (by omega) (by omega)).2
  unfold diagZ
  split
  · exact ⟨by decide, by decide⟩
  · exact ⟨this, by assumption⟩
theorem range_getD {f : Nat → Nat} {n i : Nat} (h : i < n) : ((List.range n).map f).getD i 0 = f i := by
  simp [List.getD_eq_getElem?_getD, h]
theorem rangeZ_getD {f : Nat → Int} {n i : Nat} (h : i < n) : ((List.range n).map f).getD i 0 = f i := by
  simp [List.getD_eq_getElem?_getD, h]

theorem small_of (l : List Int) {n : Nat} (hn : n ≤ 6) : Small n (lowL l n) (diagL l n) (lowZ l) (diagZ l) := by
  refine ⟨hn, by simp [lowL], by simp [diagL], fun i j hj hi => ?_, fun i hi => ?_⟩
  · have h := (atZ_t l (tri i + j) (m := 3) (by omega) (by omega)).2
    refine ⟨?_, h⟩
    unfold lowG lowL
    rw [range_getD (tri_lt hj hi)]
    exact whl_wv (by omega)
  · have h := diagZ_b l i
    refine ⟨?_, h.2, h.1⟩
    unfold diagL
    rw [range_getD hi]
    exact whl_wv (by omega)

theorem tri_wrap {n : Nat} (hn : n ≤ 48) : IntKind.i64.wrap ((IntKind.i64.wrap ((n : Int) * (IntKind.i64.wrap ((n : Int) - 1)))).tdiv 2) = ((tri n : Nat) : Int) := by
  have := triIdx (i := n + 1) (j := 0) (by omega) (by omega)
  cases n with
  | zero => decide +kernel
  | succ k =>
    have h1 : IntKind.i64.wrap (((k + 1 : Nat) : Int) - 1) = (k : Int) := by rw [wrI (by omega) (by omega)]; omega
    have h2 : (k + 1) * k ≤ 48 * 48 := Nat.mul_le_mul hn (by omega)
    rw [h1, wrMul (by omega)]
    have e : tri (k + 1) = (k + 1) * k / 2 := rfl
    have h3 : (((k + 1) * k : Nat) : Int).tdiv 2 = (((k + 1) * k / 2 : Nat) : Int) := rfl
    rw [h3, wrN (by omega), e]

theorem whole_t (q : Int) (l : List Int) : ∃ n : Nat, n ≤ 6 ∧ T_girderlaw13_whole q l = some ((n : Int), lowL l n, diagL l n) := by
  obtain ⟨n, hn, hp⟩ := pick_t q (n := 7) (by omega) (by omega)
  refine ⟨n, by omega, ?_⟩
  have ht : tri n ≤ 1128 := tri_le (by omega)
  have l1 := push_loop (b := T_girderlaw13_whole_b2 (n : Int) l) (fun k => whl (atZ l k 3)) (tri n) (by omega) (fun k hk => by
    have ha := atZ_t l k (m := 3) (by omega) (by omega)
    unfold T_girderlaw13_whole_b2
    dsimp only
    rw [tri_wrap (by omega), cond_t (by simp; omega), show (3 : Int) = ((3 : Nat) : Int) from rfl, ha.1, Option.bind_some, Option.bind_some, nf_whl (by omega), app_le (by simp; omega), Option.bind_some, map_range_snoc (G := fun k => whl (atZ l k 3)), wrU (by omega)]) (by
    unfold T_girderlaw13_whole_b2
    dsimp only
    rw [tri_wrap (by omega), cond_f (by simp)])
  have l2 := push_loop (b := T_girderlaw13_whole_b4 (n : Int) l) (fun k => whl (diagZ l k)) n (by omega) (fun k hk => by
    have ha := atZ_t l (3 * k + 1) (m := 50) (by omega) (by omega)
    have hd := diagZ_b l k
    have e : IntKind.i64.wrap (IntKind.i64.wrap (3 * (k : Int)) + 1) = ((3 * k + 1 : Nat) : Int) := by
      rw [wrI (n := 3 * (k : Int)) (by omega) (by omega), wrI (by omega) (by omega)]; omega
    have e2 : (cond (atZ l (3 * k + 1) 50 == 0) (some 7) (some (atZ l (3 * k + 1) 50))) = some (diagZ l k) := by
      unfold diagZ
      by_cases h : atZ l (3 * k + 1) 50 = 0
      · rw [if_pos h, h]; rfl
      · rw [if_neg h, cond_f (by simpa using h)]
    unfold T_girderlaw13_whole_b4
    dsimp only
    rw [cond_t (by simp; omega), e, show (50 : Int) = ((50 : Nat) : Int) from rfl, ha.1, Option.bind_some]
    rw [show ((50 : Nat) : Int) = 50 from rfl] at *
    rw [e2, Option.bind_some, Option.bind_some, nf_whl (by omega), app_le (by simp; omega), Option.bind_some, map_range_snoc (G := fun k => whl (diagZ l k)), wrU (by omega)]) (by
    unfold T_girderlaw13_whole_b4
    dsimp only
    rw [cond_f (by simp)])
  unfold T_girderlaw13_whole
  rw [show (7 : Int) = ((7 : Nat) : Int) from rfl, hp, Option.bind_some, l1, Option.bind_some, l2]
  rfl

theorem entry_t {l : List Int} {n i k : Nat} {q : Int} {d : List Nat} (hn : n ≤ 6) (hi : i < n) (hk : k < n) : T_girderlaw13_entry q (lowL l n) d (i : Int) (k : Int) = some (ent (lowZ l) i k) := by
  unfold T_girderlaw13_entry ent
  by_cases h1 : i = k
  · rw [if_pos h1, cond_t (by simp; omega)]
  · rw [if_neg h1, cond_f (by simp; omega)]
    by_cases h2 : i < k
    · rw [if_pos h2, cond_t (by simpa using h2)]
    · rw [if_neg h2, cond_f (by simp; omega), triIdx (by omega) (by omega)]
      have hlt : tri i + k < tri n := tri_lt (by omega) hi
      rw [at_getD 0 (by simpa [lowL] using hlt), Option.bind_some]
      have hs := (small_of l hn).low i k (by omega) hi
      have e : (lowL l n).getD (tri i + k) 0 = lowG (lowL l n) i k := rfl
      rw [e, f2i_whl (z := lowZ l i k) hs.1 (by omega)]
      rfl
theorem ent_b (l : List Int) (i k : Nat) : (ent (lowZ l) i k).natAbs ≤ 3 := by
  unfold ent
  split
  · decide
  · split
    · decide
    · exact (atZ_t l (tri i + k) (m := 3) (by omega) (by omega)).2

/-! ### A list that is filled by sums -/

def tl (n i : Nat) (t : Nat → Int) (p : Int) : List Int := (List.range n).map fun k => if k < i then t k else if k = i then p else 0
theorem tl_len (n i : Nat) (t : Nat → Int) (p : Int) : (tl n i t p).length = n := by simp [tl]
theorem tl_get {n i : Nat} {t : Nat → Int} {p : Int} (h : i < n) : (tl n i t p).getD i 0 = p := by unfold tl; rw [rangeZ_getD h]; simp
theorem tl_set {n i : Nat} {t : Nat → Int} {p r : Int} : (tl n i t p).set i r = tl n i t r := by
  refine ext_getD 0 (by simp [tl]) fun k hk => ?_
  have hkn : k < n := by simpa [tl] using hk
  by_cases e : k = i
  · subst e
    rw [tl_get hkn, List.getD_eq_getElem?_getD, List.getElem?_set_self (by rw [tl_len]; exact hkn)]; rfl
  · rw [List.getD_eq_getElem?_getD, List.getElem?_set_ne (Ne.symm e), ← List.getD_eq_getElem?_getD]
    unfold tl
    rw [rangeZ_getD hkn, rangeZ_getD hkn, if_neg e, if_neg e]
theorem tl_next {n i : Nat} {t : Nat → Int} : tl n i t (t i) = tl n (i + 1) t 0 := by
  unfold tl
  refine List.map_congr_left fun k _ => ?_
  by_cases h1 : k < i
  · rw [if_pos h1, if_pos (by omega)]
  · by_cases h2 : k = i
    · subst h2; rw [if_neg h1, if_pos rfl, if_pos (by omega)]
    · rw [if_neg h1, if_neg h2, if_neg (by omega)]; simp
theorem tl_zero {n : Nat} {t : Nat → Int} : tl n 0 t 0 = List.replicate n 0 := by
  unfold tl
  rw [← const_range]
  exact List.map_congr_left fun k _ => by simp
theorem tl_full {n : Nat} {t : Nat → Int} : tl n n t 0 = (List.range n).map t := by
  unfold tl
  exact List.map_congr_left fun k hk => by rw [if_pos (List.mem_range.1 hk)]

theorem wrS2 {a b : Int} (h : a.natAbs + b.natAbs < 1000000000) : IntKind.i64.wrap (a + IntKind.i64.wrap b) = a + b := by
  rw [wrI (n := b) (by omega) (by omega), wrI (by omega) (by omega)]

section
variable {l x : List Int} {n : Nat} (hn : n ≤ 6)
include hn

def xL (x : List Int) (n : Nat) : List Nat := (List.range n).map fun k => whl (atZ x k 50)
theorem want_t : iter (T_girderlaw13_SolveWhole_b2 (n : Int) x) FU (0, List.map nf []) = some (xL x n) :=
  push_loop (fun k => whl (atZ x k 50)) n (by omega) (fun k hk => by
    have ha := atZ_t x k (m := 50) (by omega) (by omega)
    unfold T_girderlaw13_SolveWhole_b2
    dsimp only
    rw [cond_t (by simp; omega), show (50 : Int) = ((50 : Nat) : Int) from rfl, ha.1, Option.bind_some, Option.bind_some, nf_whl (by omega), app_le (by simp; omega), Option.bind_some, map_range_snoc (G := fun k => whl (atZ x k 50)), wrU (by omega)]) (by
    unfold T_girderlaw13_SolveWhole_b2
    dsimp only
    rw [cond_f (by simp)])

/-- L turned over times x. -/
def turnZ (l : List Int) (X : Nat → Int) (n i : Nat) : Int := dotZ (fun k => ent (lowZ l) k i) X n
omit hn in
theorem ent_mul_b {l : List Int} {X : Nat → Int} (hX : ∀ k, (X k).natAbs ≤ 50) (i k : Nat) : (ent (lowZ l) k i * X k).natAbs ≤ 150 := mul_bound (ent_b l k i) (hX k)
theorem turnZ_b {X : Nat → Int} (hX : ∀ k, (X k).natAbs ≤ 50) (i j : Nat) (hj : j ≤ n) : (dotZ (fun k => ent (lowZ l) k i) X j).natAbs ≤ 900 := by
  have := dotZ_bound (A := fun k => ent (lowZ l) k i) (B := X) (M := 150) (n := j) fun k _ => ent_mul_b hX i k
  omega

theorem turned_t : iter (T_girderlaw13_SolveWhole_b9 (n : Int) (xL x n) (lowL l n) (diagL l n)) FU (0, List.replicate n 0) = some ((List.range n).map (turnZ l (fun k => atZ x k 50) n)) := by
  have hX : ∀ k, (atZ x k 50).natAbs ≤ 50 := fun k => (atZ_t x k (m := 50) (by omega) (by omega)).2
  have row : ∀ i, i < n → iter (T_girderlaw13_SolveWhole_b11 (n : Int) (i : Int) (xL x n) (lowL l n) (diagL l n)) FU (0, tl n i (turnZ l (fun k => atZ x k 50) n) 0) = some (tl n (i + 1) (turnZ l (fun k => atZ x k 50) n) 0) := fun i hi => by
    have := iter_nat (b := T_girderlaw13_SolveWhole_b11 (n : Int) (i : Int) (xL x n) (lowL l n) (diagL l n)) (fun j => (((j : Nat) : Int), tl n i (turnZ l (fun k => atZ x k 50) n) (dotZ (fun k => ent (lowZ l) k i) (fun k => atZ x k 50) j))) (o := tl n i (turnZ l (fun k => atZ x k 50) n) (turnZ l (fun k => atZ x k 50) n i)) n (by rw [FU_eq]; omega) (fun j hj => by
      unfold T_girderlaw13_SolveWhole_b11
      dsimp only
      have hxj : (xL x n).getD j 0 = whl (atZ x j 50) := by unfold xL; rw [range_getD hj]
      rw [cond_t (by simp; omega), at_getD 0 (by rw [tl_len]; exact hi), Option.bind_some, at_getD 0 (by simpa [xL] using hj), Option.bind_some, entry_t hn hj hi, Option.bind_some, hxj, f2i_whl (whl_wv (by have := hX j; omega)) (by have := hX j; omega)]
      simp only [Option.bind_some, Int.toNat_natCast]
      have h1 := turnZ_b (l := l) hn hX i j (by omega)
      have h2 := ent_mul_b (l := l) (X := fun k => atZ x k 50) hX i j
      rw [tl_get hi, wrS2 (by omega), tl_set, wrU (by omega)]
      rfl) (by
      unfold T_girderlaw13_SolveWhole_b11
      dsimp only
      rw [cond_f (by simp)]
      rfl)
    rw [← tl_next]
    exact this
  have := iter_nat (b := T_girderlaw13_SolveWhole_b9 (n : Int) (xL x n) (lowL l n) (diagL l n)) (fun i => (((i : Nat) : Int), tl n i (turnZ l (fun k => atZ x k 50) n) 0)) (o := (List.range n).map (turnZ l (fun k => atZ x k 50) n)) n (by rw [FU_eq]; omega) (fun i hi => by
    unfold T_girderlaw13_SolveWhole_b9
    dsimp only
    rw [cond_t (by simp; omega), row i hi, Option.bind_some, wrU (by omega)]) (by
    unfold T_girderlaw13_SolveWhole_b9
    dsimp only
    rw [cond_f (by simp), tl_full])
  rw [tl_zero] at this
  exact this

/-- L times D times something. -/
def bZ (l : List Int) (t : Nat → Int) (n i : Nat) : Int := dotZ (fun k => ent (lowZ l) i k * diagZ l k) t n
omit hn in
theorem bZ_form {l : List Int} {t : Nat → Int} {n i : Nat} (hi : i < n) : bZ l t n i = diagZ l i * t i + dotZ (lowZ l i) (fun k => diagZ l k * t k) i := by
  have : bZ l t n i = dotZ (ent (lowZ l) i) (fun k => diagZ l k * t k) n := dotZ_congr fun k _ => Int.mul_assoc ..
  rw [this, ent_row hi]
omit hn in
theorem bZ_term {l : List Int} {t : Nat → Int} (ht : ∀ k, (t k).natAbs ≤ 900) (i k : Nat) : (ent (lowZ l) i k * diagZ l k).natAbs ≤ 150 ∧ (ent (lowZ l) i k * diagZ l k * t k).natAbs ≤ 135000 :=
  ⟨mul_bound (ent_b l i k) (diagZ_b l k).1, mul_bound (mul_bound (ent_b l i k) (diagZ_b l k).1) (ht k)⟩
theorem bZ_b {t : Nat → Int} (ht : ∀ k, (t k).natAbs ≤ 900) (i j : Nat) (hj : j ≤ n) : (dotZ (fun k => ent (lowZ l) i k * diagZ l k) t j).natAbs ≤ 810000 := by
  have := dotZ_bound (A := fun k => ent (lowZ l) i k * diagZ l k) (B := t) (M := 135000) (n := j) fun k _ => (bZ_term ht i k).2
  omega

theorem sum_t {t : Nat → Int} (ht : ∀ k, (t k).natAbs ≤ 900) {i : Nat} (hi : i < n) : iter (T_girderlaw13_SolveWhole_b20 (n : Int) (diagL l n) ((List.range n).map t) (lowL l n) (i : Int)) FU (0, 0) = some (bZ l t n i) :=
  iter_nat (b := T_girderlaw13_SolveWhole_b20 (n : Int) (diagL l n) ((List.range n).map t) (lowL l n) (i : Int)) (fun j => (dotZ (fun k => ent (lowZ l) i k * diagZ l k) t j, ((j : Nat) : Int))) (o := bZ l t n i) n (by rw [FU_eq]; omega) (fun j hj => by
    unfold T_girderlaw13_SolveWhole_b20
    dsimp only
    have hd := (small_of l hn).diag j hj
    rw [cond_t (by simp; omega), at_getD 0 (by simpa [diagL] using hj), Option.bind_some, at_getD 0 (by simpa using hj), Option.bind_some, entry_t hn hi hj, Option.bind_some, f2i_whl hd.1 (by omega), Option.bind_some, rangeZ_getD hj]
    have h1 := bZ_b (l := l) hn ht i j (by omega)
    have h2 := bZ_term (l := l) ht i j
    rw [wrI (n := ent (lowZ l) i j * diagZ l j) (by omega) (by omega), wrS2 (by omega), wrU (by omega)]
    rfl) (by
    unfold T_girderlaw13_SolveWhole_b20
    dsimp only
    rw [cond_f (by simp)]
    rfl)

def bL (l : List Int) (t : Nat → Int) (n : Nat) : List Nat := (List.range n).map fun i => whl (bZ l t n i)
def midL (l : List Int) (t : Nat → Int) (n : Nat) : List Nat := (List.range n).map fun i => whl (diagZ l i * t i)
theorem mult_t {t : Nat → Int} (ht : ∀ k, (t k).natAbs ≤ 900) : iter (T_girderlaw13_SolveWhole_b18 (n : Int) (diagL l n) ((List.range n).map t) (lowL l n)) FU (0, List.map nf [], List.map nf []) = some (bL l t n, midL l t n) :=
  iter_nat (b := T_girderlaw13_SolveWhole_b18 (n : Int) (diagL l n) ((List.range n).map t) (lowL l n)) (fun i => (((i : Nat) : Int), (List.range i).map (fun i => whl (bZ l t n i)), (List.range i).map (fun i => whl (diagZ l i * t i)))) (o := (bL l t n, midL l t n)) n (by rw [FU_eq]; omega) (fun i hi => by
    unfold T_girderlaw13_SolveWhole_b18
    dsimp only
    have hd := (small_of l hn).diag i hi
    have h1 := bZ_b (l := l) hn ht i n (by omega)
    have h2 : (diagZ l i * t i).natAbs ≤ 50 * 900 := mul_bound (diagZ_b l i).1 (ht i)
    have h3 : (bZ l t n i).natAbs ≤ 810000 := h1
    rw [cond_t (by simp; omega), sum_t hn ht hi, Option.bind_some, Option.bind_some, nf_whl (by omega), app_le (by simp; omega), Option.bind_some, at_getD 0 (by simpa [diagL] using hi), Option.bind_some, f2i_whl hd.1 (by omega), Option.bind_some, at_getD 0 (by simpa using hi), Option.bind_some, rangeZ_getD hi, Option.bind_some, wrI (by omega) (by omega), nf_whl (by omega), app_le (by simp; omega), Option.bind_some,
      map_range_snoc (G := fun i => whl (bZ l t n i)), map_range_snoc (G := fun i => whl (diagZ l i * t i)), wrU (by omega)]) (by
    unfold T_girderlaw13_SolveWhole_b18
    dsimp only
    rw [cond_f (by simp)]
    rfl)

theorem right_small : T_lower_Right (n : Int) (lowL l n) (diagL l n) = some true := by
  have ht : tri n ≤ 1128 := tri_le (by omega)
  unfold T_lower_Right
  rw [cond_t (by simp), cond_t (by simp; omega)]
  simp only [Option.bind_some]
  rw [tri_wrap (by omega), cond_t (by simp [lowL])]
  simp [diagL]
theorem zero_small {q : Int} {L : List Nat} : T_girderref13_zero q L (diagL l n) = some false := by
  unfold T_girderref13_zero
  have hlen : (diagL l n).length = n := by simp [diagL]
  have t2 := iter_nat (b := T_girderref13_zero_b2 (diagL l n)) (fun i => ((i : Nat) : Int)) (o := .inl ()) n (by rw [FU_eq]; omega) (fun i hi => by
    have hd := (small_of l hn).diag i hi
    unfold T_girderref13_zero_b2
    simp only [Option.bind_some]
    rw [cond_t (by simp; omega), at_getD 0 (by omega), Option.bind_some, nf_zero, wv_ne hd.1 (wv_zero (x := 0) rfl) hd.2.1, cF, wrU (by omega)]) (by
    unfold T_girderref13_zero_b2
    simp only [Option.bind_some]
    rw [cond_f (by simp; omega)])
  rw [show ((0 : Nat) : Int) = 0 from rfl] at t2
  rw [t2]; rfl

/-- What is solved. -/
theorem solved {X : Nat → Int} (hX : ∀ k, (X k).natAbs ≤ 50) :
    (∀ i, i < n → (fw (lowL l n) (bL l (turnZ l X n) n) n).getD i 0 = whl (diagZ l i * turnZ l X n i)) ∧ ∀ i, i < n → Wv ((bk (lowL l n) (quoG (diagL l n) (fw (lowL l n) (bL l (turnZ l X n) n) n)) n n).getD i 0) (X i) :=
  sol_wv (small_of l hn) (t := turnZ l X n) (fun i _ => hX i) (fun i hi => ent_col hi) (fun i hi => by
    unfold bL
    rw [range_getD hi, bZ_form hi])

theorem equal_of {u v : List Nat} (hu : u.length = n) (hv : v.length = n) (h : ∀ i, i < n → ∃ z, Wv (u.getD i 0) z ∧ Wv (v.getD i 0) z) : T_girderlaw13_equal u v = some true :=
  equal_t (by omega) (by omega) fun i hi => by
    obtain ⟨z, h1, h2⟩ := h i (by omega)
    exact .inl (wv_feq h1 h2)

/-- The columns. -/
theorem col_t {j : Nat} (hj : j < n) : iter (T_girderlaw13_SolveWhole_b41 (n : Int) (diagL l n) (lowL l n) (j : Int)) FU (0, List.map nf [], List.map nf []) = some (bL l (turnZ l (fun k => if k = j then 1 else 0) n) n, List.replicate n 0) := by
  have hX : ∀ k, ((if k = j then 1 else 0 : Int)).natAbs ≤ 50 := fun k => by split <;> decide
  have tt : ∀ k, turnZ l (fun k => if k = j then 1 else 0) n k = ent (lowZ l) j k := fun k => by
    unfold turnZ
    have e : n = j + 1 + (n - 1 - j) := by omega
    conv => lhs; rw [e]
    rw [dotZ_split, dotZ_none (n := n - 1 - j) fun m _ => by rw [if_neg (by omega), Int.mul_zero]]
    unfold dotZ
    rw [dotZ_none (n := j) fun m hm => by rw [if_neg (by omega), Int.mul_zero], if_pos rfl]
    omega
  have sumj : ∀ i, i < n → iter (T_girderlaw13_SolveWhole_b43 (n : Int) (diagL l n) (lowL l n) (i : Int) (j : Int)) FU (0, 0) = some (bZ l (turnZ l (fun k => if k = j then 1 else 0) n) n i) := fun i hi =>
    iter_nat (b := T_girderlaw13_SolveWhole_b43 (n : Int) (diagL l n) (lowL l n) (i : Int) (j : Int)) (fun m => (dotZ (fun k => ent (lowZ l) i k * diagZ l k) (turnZ l (fun k => if k = j then 1 else 0) n) m, ((m : Nat) : Int))) (o := bZ l (turnZ l (fun k => if k = j then 1 else 0) n) n i) n (by rw [FU_eq]; omega) (fun m hm => by
      unfold T_girderlaw13_SolveWhole_b43
      dsimp only
      have hd := (small_of l hn).diag m hm
      have ht : ∀ k, (turnZ l (fun k => if k = j then 1 else 0) n k).natAbs ≤ 900 := fun k => turnZ_b hn hX k n (Nat.le_refl _)
      have h1 := bZ_b (l := l) hn ht i m (by omega)
      have h2 := bZ_term (l := l) ht i m
      rw [tt m] at h2
      rw [cond_t (by simp; omega), at_getD 0 (by simpa [diagL] using hm), Option.bind_some, entry_t hn hi hm, Option.bind_some, f2i_whl hd.1 (by omega), Option.bind_some, entry_t hn hj hm, Option.bind_some,
        wrI (n := ent (lowZ l) i m * diagZ l m) (by omega) (by omega), wrS2 (by omega), wrU (by omega), ← tt m]
      rfl) (by
      unfold T_girderlaw13_SolveWhole_b43
      dsimp only
      rw [cond_f (by simp)]
      rfl)
  have := iter_nat (b := T_girderlaw13_SolveWhole_b41 (n : Int) (diagL l n) (lowL l n) (j : Int)) (fun i => (((i : Nat) : Int), (List.range i).map (fun i => whl (bZ l (turnZ l (fun k => if k = j then 1 else 0) n) n i)), (List.range i).map fun _ => 0)) (o := (bL l (turnZ l (fun k => if k = j then 1 else 0) n) n, List.replicate n 0)) n (by rw [FU_eq]; omega) (fun i hi => by
    unfold T_girderlaw13_SolveWhole_b41
    dsimp only
    have ht : ∀ k, (turnZ l (fun k => if k = j then 1 else 0) n k).natAbs ≤ 900 := fun k => turnZ_b hn hX k n (Nat.le_refl _)
    have h1 : (bZ l (turnZ l (fun k => if k = j then 1 else 0) n) n i).natAbs ≤ 810000 := bZ_b (l := l) hn ht i n (by omega)
    rw [cond_t (by simp; omega), sumj i hi, Option.bind_some, Option.bind_some, nf_whl (by omega), app_le (by simp; omega), Option.bind_some, Option.bind_some, nf_zero, app_le (by simp; omega), Option.bind_some,
      map_range_snoc (G := fun i => whl (bZ l (turnZ l (fun k => if k = j then 1 else 0) n) n i)), map_range_snoc (G := fun _ => 0), wrU (by omega)]) (by
    unfold T_girderlaw13_SolveWhole_b41
    dsimp only
    rw [cond_f (by simp), const_range]
    rfl)
  exact this

theorem cols_t : iter (T_girderlaw13_SolveWhole_b34 (n : Int) (diagL l n) (lowL l n)) FU 0 = some (.inl ()) := by
  have := iter_nat (b := T_girderlaw13_SolveWhole_b34 (n : Int) (diagL l n) (lowL l n)) (fun k => ((k : Nat) : Int)) (o := .inl ()) n (by rw [FU_eq]; omega) (fun j hj => by
    have hX : ∀ k, ((if k = j then 1 else 0 : Int)).natAbs ≤ 50 := fun k => by split <;> decide
    unfold T_girderlaw13_SolveWhole_b34
    dsimp only
    rw [cond_t (by simp; omega), col_t hn hj, Option.bind_some]
    dsimp only
    have hs := (small_of l hn)
    rw [at_getD 0 (by simpa using hj)]
    simp only [Option.bind_some, Int.toNat_natCast]
    rw [nf_one, unit_put hj, ((solve_unit (right_small hn) rfl (by omega) hs.hl hs.hd (by simp [bL])).2 (zero_small hn)).1, Option.bind_some]
    dsimp only
    rw [cond_t (by rfl)]
    rw [equal_of hn (bk_len ..) (by simp [unitL]) fun i hi => ⟨_, (solved (l := l) hn hX).2 i hi, ?_⟩, Option.bind_some, Bool.not_true, cF, wrU (by omega)]
    unfold unitL
    rw [range_getD hi]
    unfold idG
    by_cases e : i = j
    · subst e
      rw [if_pos rfl, if_pos rfl]
      have : oneF = whl 1 := by decide +kernel
      rw [this]
      exact whl_wv (by decide)
    · rw [if_neg (Ne.symm e), if_neg e]
      exact wv_zero rfl) (by
    unfold T_girderlaw13_SolveWhole_b34
    dsimp only
    rw [cond_f (by simp)])
  exact this
end

theorem whole13 (q : Int) (l x : List Int) : T_girderlaw13_SolveWhole q l x = some true := by
  unfold T_girderlaw13_SolveWhole
  obtain ⟨n, hn, hw⟩ := whole_t q l
  have hX : ∀ k, (atZ x k 50).natAbs ≤ 50 := fun k => (atZ_t x k (m := 50) (by omega) (by omega)).2
  have hs := small_of l hn
  have ht : ∀ k, (turnZ l (fun k => atZ x k 50) n k).natAbs ≤ 900 := fun k => turnZ_b hn hX k n (Nat.le_refl _)
  obtain ⟨s1, s2⟩ := solved (l := l) hn hX
  have hbl : (bL l (turnZ l (fun k => atZ x k 50) n) n).length = n := by simp [bL]
  rw [hw, Option.bind_some]
  dsimp only
  rw [want_t hn, Option.bind_some, mk_nat (by omega), Option.bind_some, turned_t hn, Option.bind_some, mult_t hn ht, Option.bind_some]
  dsimp only
  rw [(forward_good (right_small hn) rfl (by omega) hs.hl hbl).1, Option.bind_some]
  dsimp only
  rw [((solve_unit (right_small hn) rfl (by omega) hs.hl hs.hd hbl).2 (zero_small hn)).1, Option.bind_some]
  dsimp only
  have e1 : T_girderlaw13_equal (fw (lowL l n) (bL l (turnZ l (fun k => atZ x k 50) n) n) n) (midL l (turnZ l (fun k => atZ x k 50) n) n) = some true :=
    equal_of hn (fw_len ..) (by simp [midL]) fun i hi => by
      have h2 : (diagZ l i * turnZ l (fun k => atZ x k 50) n i).natAbs ≤ 50 * 900 := mul_bound (diagZ_b l i).1 (ht i)
      refine ⟨_, by rw [s1 i hi]; exact whl_wv (by omega), ?_⟩
      unfold midL
      rw [range_getD hi]
      exact whl_wv (by omega)
  have e2 : T_girderlaw13_equal (bk (lowL l n) (quoG (diagL l n) (fw (lowL l n) (bL l (turnZ l (fun k => atZ x k 50) n) n) n)) n n) (xL x n) = some true :=
    equal_of hn (bk_len ..) (by simp [xL]) fun i hi => by
      refine ⟨_, s2 i hi, ?_⟩
      unfold xL
      rw [range_getD hi]
      exact whl_wv (by have := hX i; omega)
  rw [e1, e2]
  simp only [Option.bind_some, bne_self_eq_false, Bool.not_true, Bool.not_false, cT, cF]
  rw [cols_t hn]
  simp only [Option.bind_some, awake13]

section
variable {N : Nums} {P : Program} (H : AllOk N P)
include H
theorem whole13_f {q : Int} {sa sb : Option Addr} {na ma nb mb : Nat} {la lb : List Int} {w : World} (hA : rdA (la.map (Value.int .i64)) sa na ma w) (hB : rdA (lb.map (Value.int .i64)) sb nb mb w) :
    CallsX P N.f_girderlaw13_SolveWhole #[.int .i64 q, .slice sa na ma, .slice sb nb mb] w fun v w' => v = .bool true ∧ ∃ M, St w w' M := by
  have hS := ((Ho.start w).arg own_nil hB).arg (own_cons rfl own_nil) hA
  exact wk_girderlaw13_SolveWhole H hS (Ent.rd mp0) (Ent.rd mp1) (whole13 q la lb) fun w1 h => ⟨rfl, h.some_old⟩
end
end Go.Eng
