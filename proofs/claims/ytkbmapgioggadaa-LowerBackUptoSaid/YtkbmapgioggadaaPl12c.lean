/-
  The package lower on the plain side: Factor, whole. No condition.
-/
import Derived.Test.YtkbmapgioggadaaPl12b
set_option linter.unusedVariables false
set_option linter.unusedSimpArgs false
set_option linter.unnecessarySimpa false
set_option linter.unusedSectionVars false
set_option maxRecDepth 100000
set_option maxHeartbeats 4000000
namespace Go.Eng
open Go

theorem iter_first {τ ω : Type} {b : τ → Option (τ ⊕ ω)} {s t : τ} (h : b s = some (.inl t)) : iter b FU s = iter b 18446744073709551615 t := by
  have : iter b (18446744073709551615 + 1) s = iter b 18446744073709551615 t := by rw [iter_succ, h]
  exact this
theorem iter_out {τ ω : Type} {b : τ → Option (τ ⊕ ω)} {s : τ} {o : ω} (h : b s = some (.inr o)) : iter b FU s = some o := by
  have : iter b (18446744073709551615 + 1) s = some o := by rw [iter_succ, h]
  exact this

def OutW (n : Nat) (o : Int × Int × List Nat × List Nat) (o' : OutR) : Prop :=
  (∃ D L : List Nat, D.length = n ∧ L.length = tri n ∧ o = (0, 0, D, L) ∧ o' = .inl (D, L)) ∨ (∃ (e at' : Int) (D L : List Nat), e ≠ 0 ∧ o = (e, at', D, L) ∧ o' = .inr (0, [], [], e, at'))

section
variable {a : List Nat} {n : Nat} (hn : n ≤ 48) (ha : a.length = n * n)
include hn ha

theorem columns_two : ∃ o o', iter (T_lower_Factor_b29 (n : Int) a) FU (0, 0, 0, List.replicate n 0, List.replicate n 0, List.replicate (tri n) 0) = some o ∧ iter (T_girderref12_Factor_b29 (n : Int) a) FU (0, List.replicate n 0, List.replicate (tri n) 0) = some o' ∧ OutW n o o' := by
  have hnn : n * n ≤ 2304 := Nat.le_trans (Nat.mul_le_mul hn hn) (by omega)
  refine iter_two (b := T_lower_Factor_b29 (n : Int) a) (b' := T_girderref12_Factor_b29 (n : Int) a)
    (fun k s s' => ∃ v D L : List Nat, v.length = n ∧ D.length = n ∧ L.length = tri n ∧ s = (0, 0, ((k : Nat) : Int), v, D, L) ∧ s' = (((k : Nat) : Int), D, L)) (OutW n) n ?_ ?_ 0 FU FU _ _ (by omega) (by rw [FU_eq]; omega) (by rw [FU_eq]; omega)
    ⟨_, _, _, List.length_replicate, List.length_replicate, List.length_replicate, rfl, rfl⟩
  · intro j s s' hj ⟨v, D, L, hv, hD, hL, e1, e2⟩
    subst e1; subst e2
    have hix := idxL hj hj
    generalize hs : subS (fun k => lowG L j k) (vsN L D j) (a.getD (j * n + j) 0) j = S
    have hD2 : (D.set j S).length = n := by simpa using hD
    obtain ⟨v', hv', hV', hd⟩ := diag_t hn hL (s := a.getD (j * n + j) 0) hj hv hD
    rw [hs] at hd
    obtain ⟨o, o', ho, ho', hO⟩ := below_two hn ha hj hL hD hD2 hv' hV' 18446744073709551615 (by omega)
    have c : T_lower_Factor_b29 (n : Int) a (0, 0, (j : Int), v, D, L) = cond (fgt S 0 && finQ S) (match o with
        | .inl (t48, t49, t50) => some (.inl (t48, t49, ((j + 1 : Nat) : Int), v', D.set j S, t50))
        | .inr w => some (.inr w)) (some (.inr (220, (j : Int), D, L))) := by
      unfold T_lower_Factor_b29
      dsimp only
      rw [cond_t (by simp; omega), row_t hn hL hj, Option.bind_some]
      dsimp only
      rw [rowSub hL hj, Option.bind_some, wrIdx hj hj (by omega), at_getD 0 (by omega), Option.bind_some, Option.bind_some, rowL_len hL hj, hd, Option.bind_some]
      dsimp only
      rw [nf_zero, lfin_t]
      cases fgt S 0 with
      | false => rfl
      | true =>
        show ((some (!finQ S)).bind _) = _
        rw [Option.bind_some]
        cases finQ S with
        | false => rfl
        | true =>
          rw [Bool.not_true, cF, at_getD 0 (by omega)]
          simp only [Option.bind_some, Int.toNat_natCast, Bool.and_self, cT]
          rw [wrU (by omega), ho, Option.bind_some]
          rcases o with ⟨_, _, _⟩ | _ <;> rfl
    have r0 : T_girderref12_Factor_b38 (n : Int) a (j : Int) ((List.range j).map (vsN L D j)) ((j : Int), D, L) = cond (fgt S 0 && finQ S) (some (.inl (((j + 1 : Nat) : Int), D.set j S, L))) (some (.inr (.inr (0, [], [], 220, (j : Int))))) := by
      unfold T_girderref12_Factor_b38
      dsimp only
      rw [cond_t (by simp; omega), wrIdx hj hj (by omega), at_getD 0 (by omega), Option.bind_some, rsum_t hn hL hj (Nat.le_refl _) hL, hs, Option.bind_some, cond_t (by simp), nf_zero, rfin_t, show decide (magF S < 9218868437227405312) = finQ S from rfl]
      cases fgt S 0 with
      | false => rfl
      | true =>
        cases finQ S with
        | false => rfl
        | true =>
          simp only [Option.bind_some, Bool.not_true, Bool.not_false, cT, cF, Bool.and_self, at_getD 0 (show j < D.length by omega), Int.toNat_natCast, wrU (show j + 1 < 9223372036854775808 by omega)]
    have r : T_girderref12_Factor_b29 (n : Int) a ((j : Int), D, L) = cond (fgt S 0 && finQ S) (match o' with
        | .inl (t22, t23) => some (.inl (((j + 1 : Nat) : Int), t22, t23))
        | .inr w => some (.inr (.inr w))) (some (.inr (.inr (0, [], [], 220, (j : Int))))) := by
      unfold T_girderref12_Factor_b29
      dsimp only
      rw [cond_t (by simp; omega), mk_nat (by omega), Option.bind_some, nf_zero, rvs_t hn hL hj hD, Option.bind_some]
      cases hg : (fgt S 0 && finQ S) with
      | false =>
        rw [hg] at r0
        rw [iter_out r0]; rfl
      | true =>
        rw [hg] at r0
        rw [iter_first r0, ho', Option.bind_some, wrU (by omega)]; rfl
    rw [c, r]
    cases fgt S 0 && finQ S with
    | false => exact .inr ⟨_, _, rfl, rfl, .inr ⟨220, (j : Int), D, L, by decide, rfl, rfl⟩⟩
    | true =>
      rcases hO with ⟨L', hL', h1, h2⟩ | ⟨L', h1, h2⟩
      · subst h1; subst h2
        exact .inl ⟨_, _, rfl, rfl, v', D.set j S, L', hv', hD2, hL', rfl, rfl⟩
      · subst h1; subst h2
        exact .inr ⟨_, _, rfl, rfl, .inr ⟨6, (j : Int), D.set j S, L', by decide, rfl, rfl⟩⟩
  · intro s s' ⟨v, D, L, hv, hD, hL, e1, e2⟩
    subst e1; subst e2
    refine ⟨(0, 0, D, L), .inl (D, L), ?_, ?_, .inl ⟨D, L, hD, hL, rfl, rfl⟩⟩
    · unfold T_lower_Factor_b29
      dsimp only
      rw [cond_f (by simp)]
    · unfold T_girderref12_Factor_b29
      dsimp only
      rw [cond_f (by simp)]
end

abbrev Ans := Int × List Nat × List Nat × Int × Int
theorem scan_two (l : List Nat) (hl : l.length ≤ 4096) : ∃ (o : (Int × Int) ⊕ Ans) (o' : Unit ⊕ Ans), iter (T_lower_Factor_b2 ((l.length : Nat) : Int) l) FU (0, 0, 0) = some o ∧ iter (T_girderref12_Factor_b2 l) FU 0 = some o' ∧
    ((o = .inl (0, 0) ∧ o' = .inl ()) ∨ (o = .inr (0, [], [], 5, 0) ∧ o' = .inr (0, [], [], 5, 0))) := by
  refine iter_two (b := T_lower_Factor_b2 ((l.length : Nat) : Int) l) (b' := T_girderref12_Factor_b2 l) (fun k s s' => s = (0, 0, ((k : Nat) : Int)) ∧ s' = ((k : Nat) : Int)) (fun o o' => (o = .inl (0, 0) ∧ o' = .inl ()) ∨ (o = .inr (0, [], [], 5, 0) ∧ o' = .inr (0, [], [], 5, 0))) l.length ?_ ?_ 0 FU FU _ _ (by omega) (by rw [FU_eq]; omega) (by rw [FU_eq]; omega) ⟨rfl, rfl⟩
  · intro k s s' hk ⟨e1, e2⟩
    subst e1; subst e2
    unfold T_lower_Factor_b2 T_girderref12_Factor_b2
    simp only [Option.bind_some]
    rw [cond_t (by simp; omega), cond_t (by simp; omega), at_getD 0 hk]
    simp only [Option.bind_some, lfin_t, rfin_t, wrU (show k + 1 < 9223372036854775808 by omega)]
    cases decide (magF (l.getD k 0) < 9218868437227405312) with
    | false => exact .inr ⟨_, _, rfl, rfl, .inr ⟨rfl, rfl⟩⟩
    | true => exact .inl ⟨_, _, rfl, rfl, rfl, rfl⟩
  · intro s s' ⟨e1, e2⟩
    subst e1; subst e2
    unfold T_lower_Factor_b2 T_girderref12_Factor_b2
    simp only [Option.bind_some]
    rw [cond_f (by simp), cond_f (by simp)]
    exact ⟨_, _, rfl, rfl, .inl ⟨rfl, rfl⟩⟩

theorem factor_same (q r : Int) (l : List Nat) : ∃ (t : Int) (L D : List Nat) (e at' : Int), T_lower_Factor q r l = some (t, L, D, e, at') ∧ T_girderref12_Factor q r l = some (t, L, D, e, at') ∧ L.length ≤ 1128 ∧ D.length ≤ 48 := by
  unfold T_lower_Factor T_girderref12_Factor
  rw [symm_t, rsymm_t, Option.bind_some, Option.bind_some]
  cases hs : symB q r l with
  | false => exact ⟨0, [], [], 4, 0, rfl, rfl, by simp, by simp⟩
  | true =>
    unfold symB at hs
    simp only [Bool.and_eq_true, beq_iff_eq] at hs
    obtain ⟨⟨hR, hrc⟩, _⟩ := hs
    obtain ⟨n, b, rfl, rfl, hn, _, hl, hb⟩ := rightB_nat hR
    have hnb : n = b := by omega
    subst hnb
    simp only [Bool.not_true, cF, Option.bind_some]
    obtain ⟨o, o', h1, h2, h3⟩ := scan_two l (by omega)
    rw [h1, h2, Option.bind_some, Option.bind_some]
    rcases h3 with ⟨rfl, rfl⟩ | ⟨rfl, rfl⟩
    · obtain ⟨p, p', k1, k2, k3⟩ := columns_two hn hl
      have ht := tri_le hn
      dsimp only
      rw [triInt (by omega), mk_nat (by omega), mk_nat (by omega)]
      simp only [Option.bind_some, nf_zero]
      rw [k1, k2, Option.bind_some, Option.bind_some]
      rcases k3 with ⟨D, L, hD, hL, rfl, rfl⟩ | ⟨e, at', D, L, he, rfl, rfl⟩
      · exact ⟨n, L, D, 0, 0, rfl, rfl, by omega, by omega⟩
      · refine ⟨0, [], [], e, at', ?_, rfl, by simp, by simp⟩
        dsimp only
        rw [cond_t (by simpa using he)]; rfl
    · exact ⟨0, [], [], 5, 0, rfl, rfl, by simp, by simp⟩

/-! ### The mirrored matrix -/

theorem mirrored_some (q r : Int) (l : List Nat) : ∃ t, T_girderlaw12_mirrored q r l = some t := by
  have h1 : ∃ m : Nat, m ≤ 48 ∧ m * m ≤ l.length ∧ iter (T_girderlaw12_mirrored_b2 l q) FU 0 = some (m : Int) := by
    have step : ∀ k : Nat, k < 48 → T_girderlaw12_mirrored_b2 l q (k : Int) = cond (decide ((k + 1) * (k + 1) ≤ l.length ∧ (k : Int) < q)) (some (.inl ((k + 1 : Nat) : Int))) (some (.inr (k : Int))) := by
      intro k hk
      have hb : (k + 1) * (k + 1) ≤ 48 * 48 := Nat.mul_le_mul (by omega) (by omega)
      unfold T_girderlaw12_mirrored_b2
      simp only [Option.bind_some, wrU (show k + 1 < 9223372036854775808 by omega)]
      rw [cond_t (by simp; omega), wrMul (by omega)]
      generalize (k + 1) * (k + 1) = s
      by_cases g1 : s ≤ l.length
      · rw [cond_t (by simp; omega)]
        by_cases g2 : (k : Int) < q
        · rw [cond_t (by simpa using g2), cond_t (by simp [g1, g2])]
        · rw [cond_f (by simpa using g2), cond_f (by simp [g2])]
      · rw [cond_f (by simp; omega), cond_f (by simp [g1])]
    have inv : ∀ m : Nat, (∀ k, k < m → decide ((k + 1) * (k + 1) ≤ l.length ∧ (k : Int) < q) = true) → m * m ≤ l.length := by
      intro m h
      cases m with
      | zero => omega
      | succ m =>
        have := h m (by omega)
        simp only [decide_eq_true_eq] at this
        exact this.1
    rcases first_mark (fun k => !decide ((k + 1) * (k + 1) ≤ l.length ∧ (k : Int) < q)) 48 with h | ⟨m, h1, h2, h3⟩
    · have h' : ∀ k, k < 48 → decide ((k + 1) * (k + 1) ≤ l.length ∧ (k : Int) < q) = true := fun k hk => by have := h k hk; rw [Bool.not_eq_false'] at this; exact this
      refine ⟨48, Nat.le_refl _, inv 48 h', ?_⟩
      exact iter_nat (b := T_girderlaw12_mirrored_b2 l q) (fun k => ((k : Nat) : Int)) (o := ((48 : Nat) : Int)) 48 (by rw [FU_eq]; omega) (fun k hk => by rw [step k hk, h' k hk, cT]) (by
        unfold T_girderlaw12_mirrored_b2
        dsimp only
        rw [cond_f (by simp)])
    · have h' : ∀ k, k < m → decide ((k + 1) * (k + 1) ≤ l.length ∧ (k : Int) < q) = true := fun k hk => by have := h3 k hk; rw [Bool.not_eq_false'] at this; exact this
      refine ⟨m, by omega, inv m h', ?_⟩
      exact iter_nat (b := T_girderlaw12_mirrored_b2 l q) (fun k => ((k : Nat) : Int)) (o := (m : Int)) m (by rw [FU_eq]; omega) (fun k hk => by rw [step k (by omega), h' k hk, cT]) (by
        have : decide ((m + 1) * (m + 1) ≤ l.length ∧ (m : Int) < q) = false := by rw [Bool.not_eq_true'] at h2; exact h2
        rw [step m h1, this, cF])
  obtain ⟨m, h48, hm, hit⟩ := h1
  have hmm : m * m ≤ 2304 := Nat.le_trans (Nat.mul_le_mul h48 h48) (by omega)
  unfold T_girderlaw12_mirrored
  rw [hit, Option.bind_some, wrMul (by omega), mk_nat (by omega), Option.bind_some]
  have inner : ∀ i, i < m → ∀ t : List Nat, t.length = m * m → ∃ o o' : List Nat, iter (T_girderlaw12_mirrored_b11 (i : Int) l (m : Int)) FU (0, t) = some o ∧ iter (T_girderlaw12_mirrored_b11 (i : Int) l (m : Int)) FU (0, t) = some o' ∧ o.length = m * m := by
    intro i hi t ht
    refine iter_two (b := T_girderlaw12_mirrored_b11 (i : Int) l (m : Int)) (b' := T_girderlaw12_mirrored_b11 (i : Int) l (m : Int)) (fun k s s' => ∃ t : List Nat, t.length = m * m ∧ s = (((k : Nat) : Int), t) ∧ s' = (((k : Nat) : Int), t)) (fun o _ => o.length = m * m) (i + 1) ?_ ?_ 0 FU FU _ _ (by omega) (by rw [FU_eq]; omega) (by rw [FU_eq]; omega) ⟨t, ht, rfl, rfl⟩
    · intro k s s' hk ⟨t, ht, e1, e2⟩
      subst e1; subst e2
      have hkm : k < m := by omega
      have x1 := idxL hi hkm
      have x2 := idxL hkm hi
      have e : T_girderlaw12_mirrored_b11 (i : Int) l (m : Int) ((k : Int), t) = some (.inl (((k + 1 : Nat) : Int), (t.set (i * m + k) (l.getD (i * m + k) 0)).set (k * m + i) (l.getD (i * m + k) 0))) := by
        unfold T_girderlaw12_mirrored_b11
        dsimp only
        rw [cond_t (by simp; omega), wrIdx hi hkm (by omega), at_getD 0 (by omega), Option.bind_some, at_getD 0 (by omega)]
        simp only [Option.bind_some, Int.toNat_natCast]
        rw [wrIdx hkm hi (by omega), at_getD 0 (by rw [List.length_set]; omega)]
        simp only [Option.bind_some, Int.toNat_natCast]
        rw [wrU (by omega)]
      exact .inl ⟨_, _, e, e, _, by simpa using ht, rfl, rfl⟩
    · intro s s' ⟨t, ht, e1, e2⟩
      subst e1; subst e2
      refine ⟨t, t, ?_, ?_, ht⟩ <;>
      · unfold T_girderlaw12_mirrored_b11
        dsimp only
        rw [cond_f (by simp; omega)]
  have outer : ∃ o o' : List Nat, iter (T_girderlaw12_mirrored_b9 (m : Int) l) FU (0, List.replicate (m * m) (nf 0)) = some o ∧ iter (T_girderlaw12_mirrored_b9 (m : Int) l) FU (0, List.replicate (m * m) (nf 0)) = some o' ∧ True := by
    refine iter_two (b := T_girderlaw12_mirrored_b9 (m : Int) l) (b' := T_girderlaw12_mirrored_b9 (m : Int) l) (fun k s s' => ∃ t : List Nat, t.length = m * m ∧ s = (((k : Nat) : Int), t) ∧ s' = (((k : Nat) : Int), t)) (fun _ _ => True) m ?_ ?_ 0 FU FU _ _ (by omega) (by rw [FU_eq]; omega) (by rw [FU_eq]; omega) ⟨_, List.length_replicate, rfl, rfl⟩
    · intro k s s' hk ⟨t, ht, e1, e2⟩
      subst e1; subst e2
      obtain ⟨o, _, h1, _, h2⟩ := inner k hk t ht
      have e : T_girderlaw12_mirrored_b9 (m : Int) l ((k : Int), t) = some (.inl (((k + 1 : Nat) : Int), o)) := by
        unfold T_girderlaw12_mirrored_b9
        dsimp only
        rw [cond_t (by simp; omega), h1, Option.bind_some, wrU (by omega)]
      exact .inl ⟨_, _, e, e, o, h2, rfl, rfl⟩
    · intro s s' ⟨t, ht, e1, e2⟩
      subst e1; subst e2
      refine ⟨t, t, ?_, ?_, trivial⟩ <;>
      · unfold T_girderlaw12_mirrored_b9
        dsimp only
        rw [cond_f (by simp)]
  obtain ⟨o, _, ho, _⟩ := outer
  rw [ho]
  exact ⟨_, rfl⟩

end Go.Eng
