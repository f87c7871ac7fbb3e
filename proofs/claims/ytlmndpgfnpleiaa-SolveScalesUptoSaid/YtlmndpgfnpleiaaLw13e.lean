/-
  The law SolveScales is true: times a power of two what is solved is as many times as great, to the bit. No condition.
-/
import Derived.Test.YtlmndpgfnpleiaaScl3
import Derived.Test.YtlmndpgfnpleiaaLw13d
set_option linter.unusedVariables false
set_option linter.unusedSimpArgs false
set_option linter.unnecessarySimpa false
set_option linter.unusedSectionVars false
set_option maxRecDepth 100000
set_option maxHeartbeats 4000000
set_option exponentiation.threshold 5000
namespace Go.Eng
open Go

def Lt (x : Nat) : Prop := x < 18446744073709551616
/-- x, and the same 2^p times. -/
structure Two (p : Int) (K M : Nat) (x y : Nat) : Prop where
  gr : Gr K M x
  sc : Sc p x y
  lx : Lt x
  ly : Lt y
theorem Two.mono {p : Int} {K M K' M' x y : Nat} (h : Two p K M x y) (hK : K' ≤ K) (hM : M ≤ M') : Two p K' M' x y := ⟨h.gr.mono hK hM, h.sc, h.lx, h.ly⟩

section
variable {p : Int} (hp1 : -20 ≤ p) (hp2 : p ≤ 20)
include hp1 hp2

theorem two_step {K M s s' f g g' : Nat} (hs : Two p K M s s') (hf : Gr 1071 1077 f) (hg : Two p (K + 3) (M - 4) g g') (hK : 100 ≤ K) (hM1 : 4 ≤ M) (hM : M ≤ 2000) : Two p K (M + 2) (fsub s (fmul f g)) (fsub s' (fmul f g')) := by
  obtain ⟨m1, m2⟩ := sc_fmulG (p := p) (K' := K) (M' := M) hf hg.gr hg.sc (by omega) (by omega) (by omega) (by omega) (by omega) (by omega)
  have lm := fmul_lt hf.fin hg.gr.fin
  have lm' := fmul_lt hf.fin (sc_fin hg.sc hg.gr.fin)
  obtain ⟨k1, k2⟩ := sc_fsub hs.gr m1 hs.sc m2 hs.lx lm hs.ly lm' (by omega) (by omega) (by omega) (by omega)
  exact ⟨k1, k2, fsub_lt hs.gr.fin m1.fin, fsub_lt (sc_fin hs.sc hs.gr.fin) (sc_fin m2 m1.fin)⟩

theorem subN_two {f g g' : Nat → Nat} {K M s s' : Nat} (hs : Two p K M s s') (hK : 100 ≤ K) (hM1 : 4 ≤ M) : ∀ {j : Nat}, M + 2 * j ≤ 2000 → (∀ k, k < j → Gr 1071 1077 (f k) ∧ Two p (K + 3) (M - 4) (g k) (g' k)) → Two p K (M + 2 * j) (subN f g s j) (subN f g' s' j)
  | 0, _, _ => hs
  | j + 1, hM, h => by
    have ih := subN_two hs hK hM1 (j := j) (by omega) fun k hk => h k (by omega)
    obtain ⟨h1, h2⟩ := h j (by omega)
    show Two p K (M + 2 * j + 2) _ _
    exact two_step hp1 hp2 ih h1 (h2.mono (Nat.le_refl _) (by omega)) hK (by omega) (by omega)

theorem fw_two {l b b' : List Nat} {n K M : Nat} (hn : n ≤ 6) (hK : 200 ≤ K) (hM1 : 4 ≤ M) (hM : M ≤ 1800) (hl : ∀ i j, j < i → i < n → Gr 1071 1077 (lowG l i j)) (hb : ∀ i, i < n → Two p K M (b.getD i 0) (b'.getD i 0)) :
    ∀ m, m ≤ n → ∀ i, i < m → Two p (K - 3 * i) (M + 16 * i) ((fw l b m).getD i 0) ((fw l b' m).getD i 0)
  | 0, _, i, hi => by omega
  | m + 1, hm, i, hi => by
    have ih := fw_two hn hK hM1 hM hl hb m (by omega)
    unfold fw
    by_cases e : i = m
    · subst e
      rw [app_eq (fw_len l b i), app_eq (fw_len l b' i)]
      by_cases i0 : i = 0
      · subst i0
        have := hb 0 (by omega)
        simpa [subN] using this
      · have := subN_two hp1 hp2 (f := fun j => lowG l i j) (g := fun j => (fw l b i).getD j 0) (g' := fun j => (fw l b' i).getD j 0) (K := K - 3 * i) (M := M + 16 * (i - 1) + 4) ((hb i (by omega)).mono (by omega) (by omega)) (by omega) (by omega) (j := i) (by omega) fun k hk => ⟨hl i k hk (by omega), (ih k hk).mono (by omega) (by omega)⟩
        exact this.mono (Nat.le_refl _) (by omega)
    · rw [app_lt (by rw [fw_len]; omega), app_lt (by rw [fw_len]; omega)]
      exact ih i (by omega)

theorem bk_two {l : List Nat} {q q' : Nat → Nat} {n K M : Nat} (hn : n ≤ 6) (hK : 200 ≤ K) (hM1 : 4 ≤ M) (hM : M ≤ 1800) (hl : ∀ i j, j < i → i < n → Gr 1071 1077 (lowG l i j)) (hq : ∀ i, i < n → Two p K M (q i) (q' i)) :
    ∀ k, k ≤ n → ∀ m, m < k → Two p (K - 3 * k) (M + 16 * k) ((bk l q n k).getD m 0) ((bk l q' n k).getD m 0)
  | 0, _, m, hm => by omega
  | k + 1, hk, m, hm => by
    have ih := bk_two hn hK hM1 hM hl hq k (by omega)
    unfold bk
    cases m with
    | succ m =>
      rw [List.getD_cons_succ, List.getD_cons_succ]
      exact (ih m (by omega)).mono (by omega) (by omega)
    | zero =>
      rw [List.getD_cons_zero, List.getD_cons_zero]
      have := subN_two hp1 hp2 (f := fun m => lowG l (n - 1 - k + 1 + m) (n - 1 - k)) (g := fun m => (bk l q n k).getD m 0) (g' := fun m => (bk l q' n k).getD m 0) (K := K - 3 * (k + 1)) (M := M + 16 * k + 4) ((hq (n - 1 - k) (by omega)).mono (by omega) (by omega)) (by omega) (by omega) (j := k) (by omega) fun m hm => ⟨hl _ _ (by omega) (by omega), (ih m hm).mono (by omega) (by omega)⟩
      exact this.mono (Nat.le_refl _) (by omega)

theorem sol_two {l d b b' : List Nat} {n : Nat} (hn : n ≤ 6) (hl : ∀ i j, j < i → i < n → Gr 1071 1077 (lowG l i j)) (hb : ∀ i, i < n → Two p 1002 1094 (b.getD i 0) (b'.getD i 0))
    (hd : ∀ i, i < n → magF (d.getD i 0) < 9218868437227405312 ∧ 2 ^ 1054 ≤ vmag (magF (d.getD i 0)) ∧ vmag (magF (d.getD i 0)) ≤ 2 ^ 1094) :
    ∀ i, i < n → Two p 800 1500 ((bk l (quoG d (fw l b n)) n n).getD i 0) ((bk l (quoG d (fw l b' n)) n n).getD i 0) := fun i hi => by
  have f := fw_two hp1 hp2 (K := 1002) (M := 1094) hn (by omega) (by omega) (by omega) hl hb n (Nat.le_refl _)
  have := bk_two hp1 hp2 (q := quoG d (fw l b n)) (q' := quoG d (fw l b' n)) (K := 900) (M := 1250) hn (by omega) (by omega) (by omega) hl (fun i hi => by
    have fi := f i hi
    obtain ⟨d1, d2, d3⟩ := hd i hi
    obtain ⟨k1, k2⟩ := sc_fdivG (K' := 900) (M' := 1250) fi.gr fi.sc d1 d2 d3 (by omega) (by omega) (by omega) (by omega) (by omega) (by omega)
    have d0 : magF (d.getD i 0) ≠ 0 := by
      intro e
      rw [e] at d2
      have : vmag 0 = 0 := by decide +kernel
      have := Nat.two_pow_pos 1054
      omega
    exact ⟨k1, k2, fdiv_lt fi.gr.fin d1 d0, fdiv_lt (sc_fin fi.sc fi.gr.fin) d1 d0⟩) n (Nat.le_refl _) i hi
  exact this.mono (by omega) (by omega)
end

/-! ### The law's own numbers -/

/-- Tame: nought, or between 2^-20 and 2^20. -/
def Tame (x : Nat) : Prop := magF x = 0 ∨ (4517110426252607488 ≤ magF x ∧ magF x ≤ 4697254411347427328)
theorem tame_t {x : Nat} (hl : Lt x) : ∃ r, T_girderlaw13_tame x = some r ∧ Tame r ∧ Lt r := by
  have c1 : nf 4517110426252607488 = 4517110426252607488 := by decide +kernel
  have c2 : nf 4697254411347427328 = 4697254411347427328 := by decide +kernel
  have c3 : nf 13740482463107383296 = 9223372036854775808 + 4517110426252607488 := by decide +kernel
  have c4 : nf 13920626448202203136 = 9223372036854775808 + 4697254411347427328 := by decide +kernel
  have c5 : nf 4613937818241073152 = 4613937818241073152 := by decide +kernel
  have t3 : ∃ r, some (nf 4613937818241073152) = some r ∧ Tame r ∧ Lt r := ⟨_, rfl, by rw [c5]; right; decide, by rw [c5]; unfold Lt; omega⟩
  unfold T_girderlaw13_tame
  simp only [Option.bind_some, c1, c2, c3, c4, nf_zero, feq_zero]
  by_cases h0 : magF x = 0
  · rw [decide_eq_true h0]
    exact ⟨x, rfl, .inl h0, hl⟩
  · rw [decide_eq_false h0, Bool.not_false, cT]
    have neg : ∃ r, cond (flt x (9223372036854775808 + 4517110426252607488) || feq x (9223372036854775808 + 4517110426252607488)) (cond (fgt x (9223372036854775808 + 4697254411347427328) || feq x (9223372036854775808 + 4697254411347427328)) (some x) (some (nf 4613937818241073152))) (some (nf 4613937818241073152)) = some r ∧ Tame r ∧ Lt r := by
      cases h3 : (flt x (9223372036854775808 + 4517110426252607488) || feq x (9223372036854775808 + 4517110426252607488)) with
      | false => exact t3
      | true =>
        cases h4 : (fgt x (9223372036854775808 + 4697254411347427328) || feq x (9223372036854775808 + 4697254411347427328)) with
        | false => exact t3
        | true => exact ⟨x, rfl, .inr (between_neg (by omega) (by omega) (by omega) h3 h4), hl⟩
    cases h1 : (fgt x 4517110426252607488 || feq x 4517110426252607488) with
    | false => rw [cF]; exact neg
    | true =>
      rw [cT]
      cases h2 : (flt x 4697254411347427328 || feq x 4697254411347427328) with
      | false => rw [Bool.not_false, cT]; exact neg
      | true =>
        rw [Bool.not_true, cF]
        exact ⟨x, rfl, .inr (between_mag (by omega) (by omega) (by omega) h1 h2), hl⟩
theorem tame_gr {x : Nat} (h : Tame x) : Gr 1002 1094 x := by
  rcases h with h | ⟨h1, h2⟩
  · exact .zero h
  · exact (gr_between h1 h2).1

def tameV (x : Nat) : Nat := (T_girderlaw13_tame x).getD 0
theorem tameV_t {x : Nat} (hl : Lt x) : T_girderlaw13_tame x = some (tameV x) ∧ Tame (tameV x) ∧ Lt (tameV x) := by
  obtain ⟨r, h, h1, h2⟩ := tame_t hl
  unfold tameV
  rw [h]
  exact ⟨rfl, h1, h2⟩

/-- Eighths. -/
def eighth (l : List Int) (k : Nat) : Nat := fdiv (whl (atZ l k 32)) 4620693217682128896
theorem eighth_gr (l : List Int) (k : Nat) : Gr 1071 1077 (eighth l k) := by
  have h := (atZ_t l k (m := 32) (by omega) (by omega)).2
  have all : ∀ k : Nat, k < 65 → magF (fdiv (whl ((k : Int) - 32)) 4620693217682128896) < 9218868437227405312 ∧ vmag (magF (fdiv (whl ((k : Int) - 32)) 4620693217682128896)) % 2 ^ 1071 = 0 ∧ vmag (magF (fdiv (whl ((k : Int) - 32)) 4620693217682128896)) ≤ 2 ^ 1077 := by decide +kernel
  have := all (atZ l k 32 + 32).toNat (by omega)
  rw [show (((atZ l k 32 + 32).toNat : Nat) : Int) - 32 = atZ l k 32 by omega] at this
  exact ⟨this.1, Nat.dvd_of_mod_eq_zero this.2.1, this.2.2⟩
def lowE (l : List Int) (n : Nat) : List Nat := (List.range (tri n)).map (eighth l)
theorem lowE_t {l : List Int} {n : Nat} (hn : n ≤ 6) : iter (T_girderlaw13_SolveScales_b2 l) FU (0, lowL l n) = some (lowE l n) := by
  have ht : tri n ≤ 1128 := tri_le (by omega)
  have := iter_nat (b := T_girderlaw13_SolveScales_b2 l) (fun k => (((k : Nat) : Int), (List.range k).map (eighth l) ++ (lowL l n).drop k)) (o := lowE l n) (tri n) (by rw [FU_eq]; omega) (fun k hk => by
    have ha := atZ_t l k (m := 32) (by omega) (by omega)
    have len : ((List.range k).map (eighth l) ++ (lowL l n).drop k).length = tri n := by simp [lowL]; omega
    unfold T_girderlaw13_SolveScales_b2
    dsimp only
    rw [Option.bind_some, len, cond_t (by simp; omega), show (32 : Int) = ((32 : Nat) : Int) from rfl, ha.1, Option.bind_some, Option.bind_some, at_getD 0 (by rw [len]; exact hk)]
    simp only [Option.bind_some, Int.toNat_natCast]
    rw [nf_whl (by omega), show nf 4620693217682128896 = 4620693217682128896 by decide +kernel, drop_cons (by simpa [lowL] using hk), app_set (by simp), wrU (by omega), ← map_range_snoc (G := eighth l)]
    simp [eighth]) (by
    unfold T_girderlaw13_SolveScales_b2
    have len : ((List.range (tri n)).map (eighth l) ++ (lowL l n).drop (tri n)).length = tri n := by simp [lowL]
    dsimp only
    rw [Option.bind_some, len, cond_f (by simp), List.drop_of_length_le (by simp [lowL]), List.append_nil]; rfl)
  exact this

theorem pow_t : ∀ k : Nat, k < 41 → iter T_girderlaw13_SolveScales_b4 FU (nf 4607182418800017408, IntKind.i64.wrap ((k : Int) - 20)) = some (pow2F ((k : Int) - 20)) := by decide +kernel

/-- b, and d. -/
def bV (l : List Nat) (k : Nat) : Nat := if 0 < l.length then tameV (l.getD (k % l.length) 0) else 4607182418800017408
def dV (l : List Nat) (x k : Nat) : Nat := if 0 < l.length ∧ magF (tameV (l.getD (k % l.length) 0)) ≠ 0 then tameV (l.getD (k % l.length) 0) else x
theorem bV_tame {l : List Nat} (hl : ∀ y ∈ l, Lt y) (k : Nat) : Tame (bV l k) ∧ Lt (bV l k) := by
  unfold bV
  by_cases h : 0 < l.length
  · rw [if_pos h]
    have hk : k % l.length < l.length := Nat.mod_lt _ h
    have hx : Lt (l.getD (k % l.length) 0) := hl _ (by rw [List.getD_eq_getElem?_getD, List.getElem?_eq_getElem hk]; exact List.getElem_mem hk)
    exact (tameV_t hx).2
  · rw [if_neg h]
    exact ⟨.inr (by decide), by unfold Lt; omega⟩

theorem round_t {n k : Nat} {l3 l2 L1 L2 L3 : List Nat} {by_ : Nat} (hl3 : ∀ y ∈ l3, Lt y) (hl2 : ∀ y ∈ l2, Lt y) (hk : k < n) (hn : n ≤ 6) (h1 : L1.length = n) (h2 : L2.length = k) (h3 : L3.length = k) :
    T_girderlaw13_SolveScales_b6 (n : Int) l3 by_ l2 ((k : Int), L1, L2, L3) = some (.inl (((k + 1 : Nat) : Int), L1.set k (dV l2 (L1.getD k 0) k), L2 ++ [bV l3 k], L3 ++ [fmul (bV l3 k) by_])) := by
  have rd : ∀ {l : List Nat}, (∀ y ∈ l, Lt y) → 0 < l.length → nz ((l.length : Nat) : Int) = some () ∧ atI l ((k : Int).tmod ((l.length : Nat) : Int)) = some (l.getD (k % l.length) 0) ∧ T_girderlaw13_tame (l.getD (k % l.length) 0) = some (tameV (l.getD (k % l.length) 0)) := fun {l} hl h0 => by
    have hkl : k % l.length < l.length := Nat.mod_lt _ h0
    have e : ((k : Int)).tmod ((l.length : Nat) : Int) = ((k % l.length : Nat) : Int) := rfl
    refine ⟨if_pos (by omega), by rw [e]; exact at_getD 0 hkl, ?_⟩
    exact (tameV_t (hl _ (by rw [List.getD_eq_getElem?_getD, List.getElem?_eq_getElem hkl]; exact List.getElem_mem hkl))).1
  unfold T_girderlaw13_SolveScales_b6
  dsimp only
  rw [cond_t (by simp; omega)]
  have eB : (cond (decide (((l3.length : Nat) : Int) > 0)) ((some ((l3.length : Nat) : Int)).bind fun t34 => (nz t34).bind fun _ => (atI l3 ((k : Int).tmod t34)).bind fun t35 => (T_girderlaw13_tame t35).bind fun t36 => some t36) (some (nf 4607182418800017408))) = some (bV l3 k) := by
    unfold bV
    by_cases h : 0 < l3.length
    · obtain ⟨r1, r2, r3⟩ := rd hl3 h
      rw [if_pos h, cond_t (by simp; omega), Option.bind_some, r1, Option.bind_some, r2, Option.bind_some, r3]; rfl
    · rw [if_neg h, cond_f (by rw [decide_eq_false_iff_not]; omega)]
      decide +kernel
  simp only [Option.bind_some] at eB ⊢
  rw [eB]
  simp only [Option.bind_some]
  have q2 : L2.length + [bV l3 k].length ≤ 4294967296 := by simp; omega
  have q3 : L3.length + [fmul (bV l3 k) by_].length ≤ 4294967296 := by simp; omega
  rw [app_le q2, Option.bind_some, app_le q3, Option.bind_some]
  unfold dV
  by_cases h : 0 < l2.length
  · obtain ⟨r1, r2, r3⟩ := rd hl2 h
    rw [cond_t (by simp; omega)]
    simp only [r1, r2, r3, Option.bind_some, nf_zero, feq_zero]
    by_cases h0 : magF (tameV (l2.getD (k % l2.length) 0)) = 0
    · rw [decide_eq_true h0, if_neg (fun h => h.2 h0)]
      simp only [Bool.not_true, cF, Option.bind_some]
      rw [wrU (by omega)]
      have : L1.set k (L1.getD k 0) = L1 := by
        rw [List.getD_eq_getElem?_getD, List.getElem?_eq_getElem (by omega)]
        simp
      rw [this]
    · rw [decide_eq_false h0, if_pos ⟨h, h0⟩]
      simp only [Bool.not_false, cT]
      rw [at_getD 0 (by omega)]
      simp only [Option.bind_some, Int.toNat_natCast]
      rw [wrU (by omega)]
  · rw [cond_f (by rw [decide_eq_false_iff_not]; omega), if_neg (by omega)]
    simp only [Option.bind_some]
    rw [wrU (by omega)]
    have : L1.set k (L1.getD k 0) = L1 := by
      rw [List.getD_eq_getElem?_getD, List.getElem?_eq_getElem (by omega)]
      simp
    rw [this]

def dL (l2 : List Nat) (l : List Int) (n : Nat) : List Nat := (List.range n).map fun k => dV l2 (whl (diagZ l k)) k
theorem rounds_t {n : Nat} {l3 l2 : List Nat} {l : List Int} {by_ : Nat} (hl3 : ∀ y ∈ l3, Lt y) (hl2 : ∀ y ∈ l2, Lt y) (hn : n ≤ 6) :
    iter (T_girderlaw13_SolveScales_b6 (n : Int) l3 by_ l2) FU (0, diagL l n, List.map nf [], List.map nf []) = some (dL l2 l n, (List.range n).map (bV l3), (List.range n).map fun k => fmul (bV l3 k) by_) := by
  have := iter_nat (b := T_girderlaw13_SolveScales_b6 (n : Int) l3 by_ l2) (fun k => (((k : Nat) : Int), (List.range k).map (fun k => dV l2 (whl (diagZ l k)) k) ++ (diagL l n).drop k, (List.range k).map (bV l3), (List.range k).map fun k => fmul (bV l3 k) by_)) (o := (dL l2 l n, (List.range n).map (bV l3), (List.range n).map fun k => fmul (bV l3 k) by_)) n (by rw [FU_eq]; omega) (fun k hk => by
    rw [round_t hl3 hl2 hk hn (by simp [diagL]; omega) (by simp) (by simp), drop_cons (by simpa [diagL] using hk), app_eq (by simp), app_set (by simp), map_range_snoc, map_range_snoc (G := fun k => fmul (bV l3 k) by_)]
    have e : (diagL l n).getD k 0 = whl (diagZ l k) := by unfold diagL; rw [range_getD hk]
    rw [e, ← map_range_snoc (G := fun k => dV l2 (whl (diagZ l k)) k)]
    simp) (by
    unfold T_girderlaw13_SolveScales_b6
    dsimp only
    rw [cond_f (by simp), List.drop_of_length_le (by simp [diagL]), List.append_nil]; rfl)
  exact this

theorem dV_ok {l2 : List Nat} {l : List Int} (hl2 : ∀ y ∈ l2, Lt y) (k : Nat) : magF (dV l2 (whl (diagZ l k)) k) < 9218868437227405312 ∧ 2 ^ 1054 ≤ vmag (magF (dV l2 (whl (diagZ l k)) k)) ∧ vmag (magF (dV l2 (whl (diagZ l k)) k)) ≤ 2 ^ 1094 := by
  unfold dV
  split
  · rename_i h
    obtain ⟨h1, h2⟩ := h
    have hk : k % l2.length < l2.length := Nat.mod_lt _ h1
    have hx : Lt (l2.getD (k % l2.length) 0) := hl2 _ (by rw [List.getD_eq_getElem?_getD, List.getElem?_eq_getElem hk]; exact List.getElem_mem hk)
    rcases (tameV_t hx).2.1 with g | ⟨g1, g2⟩
    · exact absurd g h2
    · obtain ⟨k1, k2, k3⟩ := gr_between g1 g2
      exact ⟨k1.fin, k2, k3⟩
  · obtain ⟨h1, h2⟩ := diagZ_b l k
    have hw := whl_wv (z := diagZ l k) (by omega)
    refine ⟨hw.1, ?_⟩
    have e : vmag (magF (whl (diagZ l k))) = (diagZ l k).natAbs * 2 ^ 1074 := by
      have h3 := congrArg Int.natAbs hw.2
      rw [Int.natAbs_mul, Int.natAbs_natCast] at h3
      rw [← h3]
      unfold sval; split <;> simp
    rw [e]
    have p1 : (2 : Nat) ^ 1054 * 2 ^ 20 = 2 ^ 1074 := (Nat.pow_add 2 1054 20).symm
    have p2 : (2 : Nat) ^ 1074 * 2 ^ 20 = 2 ^ 1094 := (Nat.pow_add 2 1074 20).symm
    constructor
    · have a1 : (2 : Nat) ^ 1054 ≤ 2 ^ 1074 := Nat.pow_le_pow_right (by omega) (by omega)
      have a2 : 1 * 2 ^ 1074 ≤ (diagZ l k).natAbs * 2 ^ 1074 := Nat.mul_le_mul_right _ (by omega)
      rw [Nat.one_mul] at a2
      exact Nat.le_trans a1 a2
    · rw [← p2, Nat.mul_comm]
      exact Nat.mul_le_mul_left _ (by omega)

theorem solve_good {L d b : List Nat} {n : Nat} (hn : n ≤ 6) (hL : L.length = tri n) (hd : d.length = n) (hb : b.length = n) (hz : ∀ i, i < n → magF (d.getD i 0) ≠ 0) : T_solve_Solve (n : Int) L d b = some (bk L (quoG d (fw L b n)) n n, 0) := by
  have ht : tri n ≤ 1128 := tri_le (by omega)
  have hR : T_lower_Right (n : Int) L d = some true := by
    unfold T_lower_Right
    rw [cond_t (by simp), cond_t (by simp; omega)]
    simp only [Option.bind_some]
    rw [tri_wrap (by omega), cond_t (by simp [hL])]
    simp [hd]
  have hzero : T_girderref13_zero (n : Int) L d = some false := by
    unfold T_girderref13_zero
    have t2 := iter_nat (b := T_girderref13_zero_b2 d) (fun i => ((i : Nat) : Int)) (o := .inl ()) n (by rw [FU_eq]; omega) (fun i hi => by
      unfold T_girderref13_zero_b2
      simp only [Option.bind_some]
      rw [cond_t (by simp; omega), at_getD 0 (by omega), Option.bind_some, nf_zero, feq_zero, decide_eq_false (hz i hi), cF, wrU (by omega)]) (by
      unfold T_girderref13_zero_b2
      simp only [Option.bind_some]
      rw [cond_f (by simp; omega)])
    rw [show ((0 : Nat) : Int) = 0 from rfl] at t2
    rw [t2]; rfl
  exact ((solve_unit hR rfl (by omega) hL hd hb).2 hzero).1

theorem scales13 (q q4 : Int) (l : List Int) {l2 l3 : List Nat} (hl2 : ∀ y ∈ l2, Lt y) (hl3 : ∀ y ∈ l3, Lt y) : T_girderlaw13_SolveScales q l l2 l3 q4 = some true := by
  unfold T_girderlaw13_SolveScales
  obtain ⟨n, hn, hw⟩ := whole_t q l
  obtain ⟨k, hk, hp⟩ := pick_t q4 (n := 41) (by omega) (by omega)
  have hlow : ∀ i j, j < i → i < n → Gr 1071 1077 (lowG (lowE l n) i j) := fun i j hj hi => by
    unfold lowG lowE
    rw [range_getD (tri_lt hj hi)]
    exact eighth_gr l _
  have hd : ∀ i, i < n → magF ((dL l2 l n).getD i 0) < 9218868437227405312 ∧ 2 ^ 1054 ≤ vmag (magF ((dL l2 l n).getD i 0)) ∧ vmag (magF ((dL l2 l n).getD i 0)) ≤ 2 ^ 1094 := fun i hi => by
    unfold dL
    rw [range_getD hi]
    exact dV_ok hl2 i
  have hz : ∀ i, i < n → magF ((dL l2 l n).getD i 0) ≠ 0 := fun i hi e => by
    have := (hd i hi).2.1
    rw [e] at this
    have v0 : vmag 0 = 0 := by decide +kernel
    have := Nat.two_pow_pos 1054
    omega
  have hp1 : -20 ≤ (k : Int) - 20 := by omega
  have hp2 : (k : Int) - 20 ≤ 20 := by omega
  have hb : ∀ i, i < n → Two ((k : Int) - 20) 1002 1094 (((List.range n).map (bV l3)).getD i 0) (((List.range n).map fun j => fmul (bV l3 j) (pow2F ((k : Int) - 20))).getD i 0) := fun i hi => by
    rw [range_getD hi, range_getD (f := fun j => fmul (bV l3 j) (pow2F ((k : Int) - 20))) hi]
    obtain ⟨h1, h2⟩ := bV_tame hl3 i
    obtain ⟨k1, k2⟩ := sc_pow2 (p := (k : Int) - 20) (tame_gr h1) h2 (by omega) (by omega) (by omega) (by omega) (by omega) (by omega)
    exact ⟨tame_gr h1, k1, h2, k2⟩
  have sol := sol_two hp1 hp2 (l := lowE l n) (d := dL l2 l n) hn hlow hb hd
  rw [hw, Option.bind_some]
  dsimp only
  rw [lowE_t hn, Option.bind_some, show (41 : Int) = ((41 : Nat) : Int) from rfl, hp, Option.bind_some, pow_t k hk, Option.bind_some, rounds_t hl3 hl2 hn, Option.bind_some]
  dsimp only
  rw [solve_good hn (by simp [lowE]) (by simp [dL]) (by simp) hz, Option.bind_some]
  dsimp only
  rw [solve_good hn (by simp [lowE]) (by simp [dL]) (by simp) hz, Option.bind_some]
  dsimp only
  simp only [Option.bind_some, bk_len, bne_self_eq_false, Bool.not_false, cT, cF]
  have chk := iter_nat (b := T_girderlaw13_SolveScales_b8 (n : Int) (bk (lowE l n) (quoG (dL l2 l n) (fw (lowE l n) ((List.range n).map fun j => fmul (bV l3 j) (pow2F ((k : Int) - 20))) n)) n n) (bk (lowE l n) (quoG (dL l2 l n) (fw (lowE l n) ((List.range n).map (bV l3)) n)) n n) (pow2F ((k : Int) - 20))) (fun i => ((i : Nat) : Int)) (o := .inl ()) n (by rw [FU_eq]; omega) (fun i hi => by
    unfold T_girderlaw13_SolveScales_b8
    dsimp only
    rw [cond_t (by simp; omega), at_getD 0 (by rw [bk_len]; exact hi), Option.bind_some, at_getD 0 (by rw [bk_len]; exact hi), Option.bind_some, Option.bind_some]
    have s := sol i hi
    obtain ⟨k1, k2⟩ := sc_pow2 (p := (k : Int) - 20) s.gr s.lx (by omega) (by omega) (by omega) (by omega) (by omega) (by omega)
    have e := sc_uniq s.sc k1 s.ly k2
    have : ∀ x y, x = y → T_girderkit_SameFloat x y = some true := fun x y h => by subst h; unfold T_girderkit_SameFloat; simp
    rw [this _ _ e, Option.bind_some, Bool.not_true, cF, wrU (by omega)]) (by
    unfold T_girderlaw13_SolveScales_b8
    dsimp only
    rw [cond_f (by simp)])
  rw [show ((0 : Nat) : Int) = 0 from rfl] at chk
  rw [chk]
  simp only [Option.bind_some, awake13]

section
variable {N : Nums} {P : Program} (H : AllOk N P)
include H
theorem scales13_f {q q4 : Int} {sa sb sc : Option Addr} {na ma nb mb nc mc : Nat} {la : List Int} {lb lc : List Nat} {w : World} (hA : rdA (la.map (Value.int .i64)) sa na ma w) (hB : Reals w sb nb mb lb) (hC : Reals w sc nc mc lc) (wb : ∀ y ∈ lb, y < 18446744073709551616) (wc : ∀ y ∈ lc, y < 18446744073709551616) :
    CallsX P N.f_girderlaw13_SolveScales #[.int .i64 q, .slice sa na ma, .slice sb nb mb, .slice sc nc mc, .int .i64 q4] w fun v w' => v = .bool true ∧ ∃ M, St w w' M := by
  have hS := ((Ho.arg1 hC).arg (own_cons rfl own_nil) (.ofReals hB)).arg (own_cons rfl (own_cons rfl own_nil)) hA
  exact wk_girderlaw13_SolveScales H hS (Ent.rd mp0) (Ent.rd mp1) (Ent.rd mp2) (scales13 q q4 la (nf_words wb) (nf_words wc)) fun w1 h => ⟨rfl, h.some_old⟩
end
end Go.Eng
