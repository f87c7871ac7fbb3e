
/-
  The package lower on the plain side: what a factor is, by equations; Factor answers it, and what Factor answers is one. No condition.
-/
import Derived.Test.YtdephdnkkljfeaaPl12c
set_option linter.all false
set_option maxRecDepth 100000
set_option maxHeartbeats 4000000
namespace Go.Eng
open Go
theorem iter_fwd {τ ω : Type} {b : τ → Option (τ ⊕ ω)} (R : Nat → τ → Prop) (O : ω → Prop) (n : Nat) (hstep : ∀ k s, k < n → R k s → ∃ t, b s = some (.inl t) ∧ R (k + 1) t) (hstop : ∀ s, R n s → ∃ o, b s = some (.inr o) ∧ O o) :
    ∀ (k : Nat) (s : τ), k ≤ n → n < FU → R k s → ∃ o, iter b FU s = some o ∧ O o := by
  intro k s hk hn hR
  obtain ⟨o, _, h1, _, h3⟩ := iter_two (b := b) (b' := b) (fun k s s' => R k s ∧ s' = s) (fun o _ => O o) n (fun k s s' hk ⟨h, e⟩ => by
    subst e
    obtain ⟨t, ht, hR'⟩ := hstep k _ hk h
    exact .inl ⟨t, t, ht, ht, hR', rfl⟩) (fun s s' ⟨h, e⟩ => by
    subst e
    obtain ⟨o, ho, hO⟩ := hstop _ h
    exact ⟨o, o, ho, ho, hO⟩) k FU FU s s hk (by omega) (by omega) ⟨hR, rfl⟩
  exact ⟨o, h1, h3⟩
theorem tri_inj {i i' k k' : Nat} (hk : k < i) (hk' : k' < i') (h : tri i + k = tri i' + k') : i = i' ∧ k = k' := by
  rcases Nat.lt_trichotomy i i' with c | c | c
  · have := tri_mono (show i + 1 ≤ i' by omega); rw [tri_succ] at this; omega
  · subst c; exact ⟨rfl, by omega⟩
  · have := tri_mono (show i' + 1 ≤ i by omega); rw [tri_succ] at this; omega
theorem low_set {L : List Nat} {i j i' k q : Nat} (hj : j < i) (hk : k < i') (hl : tri i + j < L.length) : lowG (L.set (tri i + j) q) i' k = if i' = i ∧ k = j then q else lowG L i' k := by
  unfold lowG
  by_cases e : i' = i ∧ k = j
  · obtain ⟨rfl, rfl⟩ := e
    rw [if_pos ⟨rfl, rfl⟩, set_getD (by omega), if_pos rfl]
  · rw [if_neg e]
    have : tri i + j ≠ tri i' + k := fun h => e (by have := tri_inj hj hk h; omega)
    simp [List.getD_eq_getElem?_getD, List.getElem?_set, this]
theorem tri_place : ∀ {n p : Nat}, p < tri n → ∃ i k, k < i ∧ i < n ∧ p = tri i + k
  | 0, p, h => by have : tri 0 = 0 := rfl; omega
  | n + 1, p, h => by
    rw [tri_succ] at h
    by_cases c : p < tri n
    · obtain ⟨i, k, h1, h2, h3⟩ := tri_place c
      exact ⟨i, k, h1, by omega, h3⟩
    · exact ⟨n, p - tri n, by omega, by omega, by omega⟩
theorem low_ext {L L' : List Nat} {n : Nat} (hL : L.length = tri n) (hL' : L'.length = tri n) (h : ∀ i k, k < i → i < n → lowG L i k = lowG L' i k) : L = L' := by
  refine ext_getD 0 (by omega) fun p hp => ?_
  obtain ⟨i, k, h1, h2, rfl⟩ := tri_place (n := n) (p := p) (by omega)
  exact h i k h1 h2
def AgL (n j : Nat) (L L' : List Nat) : Prop := ∀ i k, k < i → i < n → k < j → lowG L i k = lowG L' i k
def AgD (j : Nat) (D D' : List Nat) : Prop := ∀ k, k < j → D.getD k 0 = D'.getD k 0
theorem subS_congr {f g f' g' : Nat → Nat} {s : Nat} : ∀ {j : Nat}, (∀ k, k < j → f k = f' k ∧ g k = g' k) → subS f g s j = subS f' g' s j
  | 0, _ => rfl
  | j + 1, h => by
    unfold subS
    rw [subS_congr (j := j) fun k hk => h k (by omega), (h j (by omega)).1, (h j (by omega)).2]
theorem sub_ag {n i j s : Nat} {L1 L2 L3 L4 D D' : List Nat} (hi : i < n) (hj : j ≤ i) (h1 : AgL n j L1 L2) (h2 : AgL n j L3 L4) (h3 : AgD j D D') :
    subS (fun k => lowG L1 i k) (vsN L3 D j) s j = subS (fun k => lowG L2 i k) (vsN L4 D' j) s j := by
  refine subS_congr fun k hk => ⟨h1 i k (by omega) hi hk, ?_⟩
  unfold vsN
  rw [h2 j k hk (by omega) hk, h3 k hk]
def colS (a : List Nat) (n : Nat) (L D : List Nat) (i j : Nat) : Nat := subS (fun k => lowG L i k) (vsN L D j) (a.getD (i * n + j) 0) j
theorem colS_ag {a : List Nat} {n i j : Nat} {L L' D D' : List Nat} (hi : i < n) (hj : j ≤ i) (h2 : AgL n j L L') (h3 : AgD j D D') : colS a n L D i j = colS a n L' D' i j := sub_ag hi hj h2 h2 h3
structure FacTo (a : List Nat) (n m : Nat) (L D : List Nat) : Prop where
  lenL : L.length = tri n
  lenD : D.length = n
  dia : ∀ j, j < m → D.getD j 0 = colS a n L D j j ∧ fgt (D.getD j 0) 0 = true ∧ finQ (D.getD j 0) = true
  bel : ∀ i j, j < i → i < n → j < m → lowG L i j = fdiv (colS a n L D i j) (D.getD j 0) ∧ finQ (lowG L i j) = true
abbrev Fac (a : List Nat) (n : Nat) (L D : List Nat) : Prop := FacTo a n n L D
section
variable {a : List Nat} {n : Nat} (hn : n ≤ 48) (ha : a.length = n * n)
include hn ha
theorem b38_step {i j : Nat} (hi : i < n) (hji : j < i) {L D D2 v L' : List Nat} (hL : L.length = tri n) (hD2 : D2.length = n) (hv : v.length = n) (hV : ∀ k, k < j → v.getD k 0 = vsN L D j k) (hL' : L'.length = tri n)
    {q : Nat} (hq : q = fdiv (subS (fun k => lowG L' i k) (vsN L D j) (a.getD (i * n + j) 0) j) (D2.getD j 0)) :
    T_lower_Factor_b38 (n : Int) a (j : Int) v D2 (0, 0, (i : Int), L') = cond (!finQ q) (some (.inr (.inr (6, (j : Int), D2, L'.set (tri i + j) q)))) (some (.inl (0, 0, ((i + 1 : Nat) : Int), L'.set (tri i + j) q))) := by
  have hnn : n * n ≤ 2304 := Nat.le_trans (Nat.mul_le_mul hn hn) (by omega)
  have hj : j < n := by omega
  have hix := idxL hi hj
  have ht := tri_lt hji hi
  have h1 := tri_mono (show i + 1 ≤ n by omega)
  rw [tri_succ] at h1
  have htl := tri_le hn
  have hset : (L'.set (tri i + j) q).length = tri n := by simpa using hL'
  unfold T_lower_Factor_b38
  dsimp only
  rw [cond_t (by simp; omega), row_t hn hL' hi, Option.bind_some]
  dsimp only
  rw [rowSub hL' hi, Option.bind_some, wrIdx hi hj (by omega), at_getD 0 (by omega), Option.bind_some, down_t hn hL hi hji hv hV hL', Option.bind_some, at_getD 0 (by omega), Option.bind_some, Option.bind_some, at_getD 0 (by rw [rowL_len hL' hi]; exact hji)]
  simp only [Option.bind_some, Int.toNat_natCast]
  rw [← hq, rowSub (l := L'.set (tri i + j) q) hset hi, Option.bind_some, at_getD 0 (by rw [rowL_len hset hi]; exact hji), Option.bind_some, rowL_at hset hi hji, lfin_t, Option.bind_some]
  have g : lowG (L'.set (tri i + j) q) i j = q := by unfold lowG; rw [set_getD (by omega), if_pos rfl]
  rw [g, wrU (by omega)]; rfl
theorem b38_stop {j : Nat} {v D2 L' : List Nat} : T_lower_Factor_b38 (n : Int) a (j : Int) v D2 (0, 0, (n : Int), L') = some (.inr (.inl (0, 0, L'))) := by
  unfold T_lower_Factor_b38
  dsimp only
  rw [cond_f (by simp)]
theorem b29_step {j : Nat} (hj : j < n) {L D v : List Nat} (hL : L.length = tri n) (hD : D.length = n) (hv : v.length = n) :
    ∃ v', v'.length = n ∧ (∀ k, k < j → v'.getD k 0 = vsN L D j k) ∧ T_lower_Factor_b29 (n : Int) a (0, 0, (j : Int), v, D, L) = cond (fgt (colS a n L D j j) 0 && finQ (colS a n L D j j))
      ((iter (T_lower_Factor_b38 (n : Int) a (j : Int) v' (D.set j (colS a n L D j j))) FU (0, 0, ((j + 1 : Nat) : Int), L) : Option OutC).bind fun o => match o with
        | .inl (t48, t49, t50) => some (.inl (t48, t49, ((j + 1 : Nat) : Int), v', D.set j (colS a n L D j j), t50))
        | .inr w => some (.inr w)) (some (.inr (220, (j : Int), D, L))) := by
  have hnn : n * n ≤ 2304 := Nat.le_trans (Nat.mul_le_mul hn hn) (by omega)
  have hix := idxL hj hj
  generalize hs : colS a n L D j j = S
  obtain ⟨v', hv', hV', hd⟩ := diag_t hn hL (s := a.getD (j * n + j) 0) hj hv hD
  have hs' : subS (fun k => lowG L j k) (vsN L D j) (a.getD (j * n + j) 0) j = S := hs
  rw [hs'] at hd
  refine ⟨v', hv', hV', ?_⟩
  unfold T_lower_Factor_b29
  dsimp only
  rw [cond_t (by simp; omega), row_t hn hL hj, Option.bind_some]
  dsimp only
  rw [rowSub hL hj, Option.bind_some, wrIdx hj hj (by omega), at_getD 0 (by omega), Option.bind_some, Option.bind_some, rowL_len hL hj, hd, Option.bind_some]
  dsimp only
  rw [nf_zero, lfin_t]
  cases fgt S 0 with
  | false => rfl
  | true =>
    show ((some (!finQ S)).bind _) = _
    rw [Option.bind_some]
    cases finQ S with
    | false => rfl
    | true =>
      rw [Bool.not_true, cF, at_getD 0 (by omega)]
      simp only [Option.bind_some, Int.toNat_natCast, Bool.and_self, cT]
      rw [wrU (by omega)]; rfl
theorem b29_stop {v D L : List Nat} : T_lower_Factor_b29 (n : Int) a (0, 0, (n : Int), v, D, L) = some (.inr (0, 0, D, L)) := by
  unfold T_lower_Factor_b29
  dsimp only
  rw [cond_f (by simp)]
theorem set_ag {D : List Nat} {j x : Nat} : AgD j (D.set j x) D := fun k hk => by
  simp [List.getD_eq_getElem?_getD, List.getElem?_set, show j ≠ k by omega]
theorem below_of {j : Nat} (hj : j < n) {Lf Df L D D2 v : List Nat} (hF : Fac a n Lf Df) (hL : L.length = tri n) (hD2 : D2.length = n) (hv : v.length = n) (hV : ∀ k, k < j → v.getD k 0 = vsN L D j k) (hA : AgL n j L Lf) (hAD : AgD j D Df) (hdj : D2.getD j 0 = Df.getD j 0) :
    ∃ o, iter (T_lower_Factor_b38 (n : Int) a (j : Int) v D2) FU (0, 0, ((j + 1 : Nat) : Int), L) = some o ∧ ∃ L', o = .inl (0, 0, L') ∧ L'.length = tri n ∧ AgL n (j + 1) L' Lf := by
  refine iter_fwd (b := T_lower_Factor_b38 (n : Int) a (j : Int) v D2) (fun i s => j < i ∧ ∃ L', s = (0, 0, ((i : Nat) : Int), L') ∧ L'.length = tri n ∧ AgL n j L' Lf ∧ ∀ i', j < i' → i' < i → lowG L' i' j = lowG Lf i' j)
    (fun o => ∃ L', o = .inl (0, 0, L') ∧ L'.length = tri n ∧ AgL n (j + 1) L' Lf) n ?_ ?_ (j + 1) _ (by omega) (by rw [FU_eq]; omega) ⟨by omega, L, rfl, hL, hA, fun i' h1 h2 => by omega⟩
  · intro i s hi ⟨hji, L', hs, hL', hA', hC⟩
    subst hs
    have hlt := tri_lt hji hi
    have hq : lowG Lf i j = fdiv (subS (fun k => lowG L' i k) (vsN L D j) (a.getD (i * n + j) 0) j) (D2.getD j 0) := by
      rw [(hF.bel i j hji hi hj).1, hdj]
      unfold colS
      rw [sub_ag (L1 := L') (L2 := Lf) (L3 := L) (L4 := Lf) (D := D) (D' := Df) hi (by omega) hA' hA hAD]
    rw [b38_step hn ha hi hji hL hD2 hv hV hL' hq, (hF.bel i j hji hi hj).2]
    refine ⟨_, rfl, by omega, _, rfl, by simpa using hL', fun i' k h1 h2 h3 => ?_, fun i' h1 h2 => ?_⟩
    · rw [low_set hji h1 (by omega), if_neg (by omega)]; exact hA' i' k h1 h2 h3
    · rw [low_set hji h1 (by omega)]
      by_cases c : i' = i
      · subst c; rw [if_pos ⟨rfl, rfl⟩]
      · rw [if_neg (by omega)]; exact hC i' h1 (by omega)
  · intro s ⟨hji, L', hs, hL', hA', hC⟩
    subst hs
    refine ⟨_, b38_stop hn ha, L', rfl, hL', fun i k h1 h2 h3 => ?_⟩
    by_cases c : k = j
    · subst c; exact hC i h1 h2
    · exact hA' i k h1 h2 (by omega)
theorem cols_of {Lf Df : List Nat} (hF : Fac a n Lf Df) : iter (T_lower_Factor_b29 (n : Int) a) FU (0, 0, 0, List.replicate n 0, List.replicate n 0, List.replicate (tri n) 0) = some (0, 0, Df, Lf) := by
  obtain ⟨o, h, ho⟩ := iter_fwd (b := T_lower_Factor_b29 (n : Int) a) (fun j s => ∃ v D L : List Nat, s = (0, 0, ((j : Nat) : Int), v, D, L) ∧ v.length = n ∧ D.length = n ∧ L.length = tri n ∧ AgL n j L Lf ∧ AgD j D Df)
    (fun o => o = (0, 0, Df, Lf)) n (fun j s hj ⟨v, D, L, hs, hv, hD, hL, hA, hAD⟩ => by
      subst hs
      obtain ⟨v', hv', hV', hb⟩ := b29_step hn ha hj hL hD hv
      have hS : colS a n L D j j = Df.getD j 0 := by rw [colS_ag hj (Nat.le_refl _) hA hAD]; exact (hF.dia j hj).1.symm
      rw [hS] at hb
      have hD2 : (D.set j (Df.getD j 0)).length = n := by simpa using hD
      have hdj : (D.set j (Df.getD j 0)).getD j 0 = Df.getD j 0 := by rw [set_getD (by omega), if_pos rfl]
      obtain ⟨o, ho, L', rfl, hL', hA'⟩ := below_of hn ha hj hF hL hD2 hv' hV' hA hAD hdj
      rw [(hF.dia j hj).2.1, (hF.dia j hj).2.2, ho] at hb
      refine ⟨_, hb, v', D.set j (Df.getD j 0), L', rfl, hv', hD2, hL', hA', fun k hk => ?_⟩
      by_cases c : k = j
      · subst c; exact hdj
      · rw [set_ag hn ha k (by omega)]; exact hAD k (by omega)) (fun s ⟨v, D, L, hs, hv, hD, hL, hA, hAD⟩ => by
      subst hs
      refine ⟨_, b29_stop hn ha, ?_⟩
      rw [low_ext hL hF.lenL fun i k h1 h2 => hA i k h1 h2 (by omega), ext_getD (l := D) (m := Df) 0 (by rw [hD, hF.lenD]) fun k hk => hAD k (by omega)]) 0 (0, 0, 0, List.replicate n 0, List.replicate n 0, List.replicate (tri n) 0) (by omega) (by rw [FU_eq]; omega)
      ⟨_, _, _, rfl, List.length_replicate, List.length_replicate, List.length_replicate, fun i k _ _ h => by omega, fun k h => by omega⟩
  rw [h, ho]
end
theorem scan_t {l : List Nat} (hl : l.length ≤ 4096) : iter (T_lower_Factor_b2 ((l.length : Nat) : Int) l) FU (0, 0, 0) = some (if ∀ i, i < l.length → finQ (l.getD i 0) = true then .inl (0, 0) else .inr (0, [], [], 5, 0)) := by
  have step : ∀ k, k < l.length → finQ (l.getD k 0) = true → T_lower_Factor_b2 ((l.length : Nat) : Int) l (0, 0, ((k : Nat) : Int)) = some (.inl (0, 0, ((k + 1 : Nat) : Int))) := by
    intro k hk hf
    unfold T_lower_Factor_b2
    dsimp only
    rw [cond_t (by simp; omega), at_getD 0 hk]
    simp only [Option.bind_some, lfin_t]
    rw [show decide (magF (l.getD k 0) < 9218868437227405312) = true from hf, Bool.not_true, cF, wrU (by omega)]
  rcases first_mark (fun i => !finQ (l.getD i 0)) l.length with hall | ⟨i, hi, hne, hbef⟩
  · have hall' : ∀ i, i < l.length → finQ (l.getD i 0) = true := fun i hi => by simpa using hall i hi
    rw [if_pos hall']
    exact iter_nat (b := T_lower_Factor_b2 ((l.length : Nat) : Int) l) (fun k => (0, 0, ((k : Nat) : Int))) (o := .inl (0, 0)) l.length (by rw [FU_eq]; omega) (fun k hk => step k hk (hall' k hk)) (by
      unfold T_lower_Factor_b2
      dsimp only
      rw [cond_f (by simp)])
  · have hf : finQ (l.getD i 0) = false := by simpa using hne
    rw [if_neg (fun h => by rw [h i hi] at hf; cases hf)]
    exact iter_nat (b := T_lower_Factor_b2 ((l.length : Nat) : Int) l) (fun k => (0, 0, ((k : Nat) : Int))) (o := .inr (0, [], [], 5, 0)) i (by rw [FU_eq]; omega) (fun k hk => step k (by omega) (by simpa using hbef k hk)) (by
      unfold T_lower_Factor_b2
      dsimp only
      rw [cond_t (by simp; omega), at_getD 0 hi]
      simp only [Option.bind_some, lfin_t]
      rw [show decide (magF (l.getD i 0) < 9218868437227405312) = false from hf, Bool.not_false, cT]; rfl)
structure Squ (n : Nat) (l : List Nat) : Prop where
  n48 : n ≤ 48
  len : l.length = n * n
  sym : ∀ i j, i < n → j < n → l.getD (i * n + j) 0 = l.getD (j * n + i) 0
  fin : ∀ i, i < l.length → finQ (l.getD i 0) = true
theorem squ_symB {n : Nat} {l : List Nat} (h : Squ n l) : symB n n l = true := by
  have h48 := h.n48
  have hnn : n * n ≤ 2304 := Nat.le_trans (Nat.mul_le_mul h48 h48) (by omega)
  unfold symB
  simp only [Bool.and_eq_true, beq_iff_eq, Int.toNat_natCast]
  refine ⟨⟨?_, trivial⟩, (grid_of h.len fun i j hi hj => h.sym i j hi hj).symm⟩
  unfold rightB
  have e : ((n * n : Nat) : Int) = (n : Int) * n := by simp
  simp [h.len]
  omega
theorem factor_of {n : Nat} {l L D : List Nat} (hS : Squ n l) (hF : Fac l n L D) : T_lower_Factor n n l = some ((n : Int), L, D, 0, 0) := by
  have hn := hS.n48
  have hnn : n * n ≤ 2304 := Nat.le_trans (Nat.mul_le_mul hn hn) (by omega)
  have ht := tri_le hn
  unfold T_lower_Factor
  rw [symm_t, squ_symB hS, Option.bind_some, Bool.not_true, cF, Option.bind_some, scan_t (by rw [hS.len]; omega), if_pos hS.fin, Option.bind_some]
  dsimp only
  rw [triInt (by omega), mk_nat (by omega), mk_nat (by omega)]
  simp only [Option.bind_some, nf_zero]
  rw [cols_of hn hS.len hF]; rfl
end Go.Eng
