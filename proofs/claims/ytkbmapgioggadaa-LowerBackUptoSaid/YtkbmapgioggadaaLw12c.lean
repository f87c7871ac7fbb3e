/-
  The law LowerScaled. No condition.
-/
import Derived.Test.YtkbmapgioggadaaPl12d
import Derived.Test.YtkbmapgioggadaaScl4
import Derived.Test.YtkbmapgioggadaaLw12
set_option linter.unusedVariables false
set_option linter.unusedSimpArgs false
set_option linter.unnecessarySimpa false
set_option linter.unusedSectionVars false
set_option maxRecDepth 100000
set_option maxHeartbeats 4000000
set_option exponentiation.threshold 5000
namespace Go.Eng
open Go

/-! ### What is even -/

def evB (x : Nat) : Bool := cond (!feq (nf (magF x)) 0) (cond (fgt (nf (magF x)) 3256102530588868608 || feq (nf (magF x)) 3256102530588868608) (flt (nf (magF x)) 5958262307011166208 || feq (nf (magF x)) 5958262307011166208) false) true
theorem even_t {l : List Nat} (hl : l.length ≤ 4096) : T_girderlaw12_even l = some (decide (∀ i, i < l.length → evB (l.getD i 0) = true)) := by
  have c1 : nf 3256102530588868608 = 3256102530588868608 := by decide +kernel
  have c2 : nf 5958262307011166208 = 5958262307011166208 := by decide +kernel
  have step : ∀ k, k < l.length → T_girderlaw12_even_b2 l ((k : Nat) : Int) = cond (evB (l.getD k 0)) (some (.inl ((k + 1 : Nat) : Int))) (some (.inr (.inr false))) := by
    intro k hk
    unfold T_girderlaw12_even_b2 T_math_Abs
    simp only [Option.bind_some]
    rw [cond_t (by simp; omega), at_getD 0 hk]
    simp only [Option.bind_some, nf_zero, c1, c2, wrU (show k + 1 < 9223372036854775808 by omega)]
    unfold evB
    cases feq (nf (magF (l.getD k 0))) 0 with
    | true => rfl
    | false =>
      cases (fgt (nf (magF (l.getD k 0))) 3256102530588868608 || feq (nf (magF (l.getD k 0))) 3256102530588868608) with
      | false => rfl
      | true =>
        cases (flt (nf (magF (l.getD k 0))) 5958262307011166208 || feq (nf (magF (l.getD k 0))) 5958262307011166208) <;> rfl
  unfold T_girderlaw12_even
  rcases first_mark (fun i => !evB (l.getD i 0)) l.length with hall | ⟨i, hi, hne, hbef⟩
  · have hall' : ∀ i, i < l.length → evB (l.getD i 0) = true := fun i hi => by simpa using hall i hi
    have := iter_nat (b := T_girderlaw12_even_b2 l) (fun k => ((k : Nat) : Int)) (o := .inl ()) l.length (by rw [FU_eq]; omega) (fun k hk => by rw [step k hk, hall' k hk, cT]) (by
      unfold T_girderlaw12_even_b2
      simp only [Option.bind_some]
      rw [cond_f (by simp)])
    rw [show ((0 : Nat) : Int) = 0 from rfl] at this
    rw [this, decide_eq_true hall']; rfl
  · have hf : evB (l.getD i 0) = false := by simpa using hne
    have := iter_nat (b := T_girderlaw12_even_b2 l) (fun k => ((k : Nat) : Int)) (o := .inr false) i (by rw [FU_eq]; omega) (fun k hk => by rw [step k (by omega), show evB (l.getD k 0) = true by simpa using hbef k hk, cT]) (by rw [step i hi, hf, cF])
    rw [show ((0 : Nat) : Int) = 0 from rfl] at this
    rw [this, decide_eq_false fun h => by rw [h i hi] at hf; cases hf]; rfl
theorem ev_mg {x : Nat} (h : evB x = true) : Mg 774 1374 x := by
  have v1 : vmag 3256102530588868608 = 2 ^ 774 := by decide +kernel
  have v2 : vmag 5958262307011166208 = 2 ^ 1374 := by decide +kernel
  unfold evB at h
  cases hn : isNaN (magF x) with
  | true =>
    have e : nf (magF x) = qnan := by unfold nf; rw [hn]; rfl
    rw [e] at h
    have f : cond (!feq qnan 0) (cond (fgt qnan 3256102530588868608 || feq qnan 3256102530588868608) (flt qnan 5958262307011166208 || feq qnan 5958262307011166208) false) true = false := by decide +kernel
    rw [f] at h
    cases h
  | false =>
    rw [nf_of_not hn] at h
    have hz := feq_zero (magF x)
    rw [magF_magF] at hz
    rw [hz] at h
    by_cases h0 : magF x = 0
    · exact ⟨by omega, .inl h0⟩
    · rw [decide_eq_false h0, Bool.not_false, cT] at h
      cases h1 : (fgt (magF x) 3256102530588868608 || feq (magF x) 3256102530588868608) with
      | false => rw [h1] at h; cases h
      | true =>
        rw [h1, cT] at h
        have b := between_mag (x := magF x) (by omega) (by omega) (by omega) h1 h
        rw [magF_magF] at b
        refine ⟨by omega, .inr ?_⟩
        have l1 := vmag_le_iff.2 b.1
        have l2 := vmag_le_iff.2 b.2
        rw [v1] at l1
        rw [v2] at l2
        exact ⟨l1, l2⟩

/-! ### The factor of what is scaled -/

section
variable {p : Int} (hp1 : -20 ≤ p) (hp2 : p ≤ 20) {n : Nat} (hn : n ≤ 48) {l l' L D D' : List Nat}
  (hl : ∀ i, i < n * n → Mg 774 1374 (l.getD i 0) ∧ Duo p 722 1374 (l.getD i 0) (l'.getD i 0))
  (hL : ∀ i j, j < i → i < n → Mg 774 1374 (lowG L i j)) (hD : ∀ i, i < n → Mg 774 1374 (D.getD i 0) ∧ Sc p (D.getD i 0) (D'.getD i 0))
include hp1 hp2 hn hl hL hD

theorem colS_duo {i j : Nat} (hi : i < n) (hj : j ≤ i) : Duo p 122 (1976 + 2 * j) (colS l n L D i j) (colS l' n L D' i j) := by
  have key : ∀ m, m ≤ j → Duo p 122 (1976 + 2 * m) (subS (fun k => lowG L i k) (vsN L D j) (l.getD (i * n + j) 0) m) (subS (fun k => lowG L i k) (vsN L D' j) (l'.getD (i * n + j) 0) m) := by
    intro m
    induction m with
    | zero =>
      intro _
      have h := (hl (i * n + j) (idxL hi (by omega))).2
      exact ⟨h.gr.mono (by omega) (by omega), h.sc, h.lx, h.ly⟩
    | succ m ih =>
      intro hm
      have ih := ih (by omega)
      unfold subS
      have f1 := hL j m (by omega) (by omega)
      have f2 := hL i m (by omega) hi
      obtain ⟨d1, d2⟩ := hD m (by omega)
      obtain ⟨a1, a2⟩ := mg_mul f1 d1 d2 (by omega) (by omega) (by omega) (by omega)
      obtain ⟨b1, b2⟩ := mg_mul f2 a1 a2 (by omega) (by omega) (by omega) (by omega)
      show Duo p 122 (1976 + 2 * m + 2) _ _
      exact duo_sub ih ((b1.gr (by omega)).mono (by omega) (by omega)) b2 (by omega) (by omega) (by omega) (by omega) (fmul_lt f2.fin a1.fin) (fmul_lt f2.fin (sc_fin a2 a1.fin))
  exact key j (Nat.le_refl _)

theorem scaled_fac (hlen : D'.length = n) (hD2 : ∀ i, i < n → D'.getD i 0 < 18446744073709551616) (hF : Fac l n L D) : Fac l' n L D' := by
  refine ⟨hF.lenL, hlen, fun j hj => ?_, fun i j h1 h2 h3 => ?_⟩
  · obtain ⟨d1, d2, d3⟩ := hF.dia j hj
    obtain ⟨m1, m2⟩ := hD j hj
    have du := colS_duo hp1 hp2 hn hl hL hD hj (Nat.le_refl j)
    have e := sc_uniq (y' := colS l' n L D' j j) m2 (by rw [d1]; exact du.sc) (hD2 j hj) du.ly
    refine ⟨e, ?_, ?_⟩
    · rw [fgt_zero] at d2 ⊢
      simp only [Bool.and_eq_true, decide_eq_true_eq, ne_eq] at d2 ⊢
      rw [sc_zero m2, sc_neg m2]
      exact ⟨⟨Nat.le_of_lt (sc_fin m2 m1.fin), d2.1.2⟩, d2.2⟩
    · have := sc_fin m2 m1.fin
      simpa [finQ] using this
  · obtain ⟨b1, b2⟩ := hF.bel i j h1 h2 h3
    obtain ⟨d1, d2, d3⟩ := hF.dia j h3
    obtain ⟨m1, m2⟩ := hD j h3
    have du := colS_duo hp1 hp2 hn hl hL hD h2 (show j ≤ i by omega)
    refine ⟨?_, b2⟩
    rw [b1, fdiv_sc du.sc m2 du.gr.fin m1.fin]
    intro h0
    rw [fgt_zero, h0] at d2
    simp at d2
end

/-! ### Words -/

theorem at_mem {α : Type} {l : List α} {i : Int} {v : α} (h : atI l i = some v) : v ∈ l := by
  unfold atI at h
  split at h
  · exact List.mem_of_getElem? h
  · cases h
def AllW (l : List Nat) : Prop := ∀ y ∈ l, y < 18446744073709551616
theorem AllW.get {l : List Nat} (h : AllW l) (i : Nat) : l.getD i 0 < 18446744073709551616 := by
  rw [List.getD_eq_getElem?_getD]
  cases e : l[i]? with
  | none => simp
  | some v => exact h v (List.mem_of_getElem? e)
theorem AllW.set {l : List Nat} (h : AllW l) {x : Nat} (i : Nat) (hx : x < 18446744073709551616) : AllW (l.set i x) := fun y hy => by
  rcases List.mem_or_eq_of_mem_set hy with h' | h'
  · exact h y h'
  · rw [h']; exact hx

theorem mirrored_w {q r a b : Int} {l x : List Nat} (hl : AllW l) (h : T_girderlaw12_mirrored q r l = some (a, b, x)) : AllW x := by
  unfold T_girderlaw12_mirrored at h
  simp only [Option.bind_eq_some_iff] at h
  obtain ⟨m, _, z, hz, o, ho, e⟩ := h
  have e := Option.some.inj e
  have e : o = x := by injection e with _ e; injection e with _ e
  subst e
  have hz' : AllW z := by
    unfold mkL at hz
    split at hz
    · have hz := (Option.some.inj hz).symm
      subst hz
      intro y hy
      rw [List.eq_of_mem_replicate hy, nf_zero]; omega
    · cases hz
  refine iter_inv (b := T_girderlaw12_mirrored_b9 m l) (fun s => AllW s.2) AllW ?_ ?_ FU _ o hz' ho
  · intro s hs t ht
    obtain ⟨i, u⟩ := s
    unfold T_girderlaw12_mirrored_b9 at ht
    dsimp only at ht
    cases hc : decide (i < m) with
    | false => rw [hc] at ht; cases ht
    | true =>
      rw [hc, cT] at ht
      simp only [Option.bind_eq_some_iff] at ht
      obtain ⟨v, hv, e⟩ := ht
      have e := (Sum.inl.inj (Option.some.inj e)).symm
      subst e
      refine iter_inv (b := T_girderlaw12_mirrored_b11 i l m) (fun s => AllW s.2) AllW ?_ ?_ FU (0, u) v hs hv
      · intro s hs t ht
        obtain ⟨k, u⟩ := s
        unfold T_girderlaw12_mirrored_b11 at ht
        dsimp only at ht
        cases hc : decide (k ≤ i) with
        | false => rw [hc] at ht; cases ht
        | true =>
          rw [hc, cT] at ht
          simp only [Option.bind_eq_some_iff] at ht
          obtain ⟨v1, h1, _, _, u1, e1, v2, h2, _, _, u2, e2, e⟩ := ht
          have e := (Sum.inl.inj (Option.some.inj e)).symm
          subst e
          have e1 := (Option.some.inj e1).symm
          have e2 := (Option.some.inj e2).symm
          subst e1
          subst e2
          exact (AllW.set hs _ (hl _ (at_mem h1))).set _ (hl _ (at_mem h2))
      · intro s hs o ho
        obtain ⟨k, u⟩ := s
        unfold T_girderlaw12_mirrored_b11 at ho
        dsimp only at ho
        cases hc : decide (k ≤ i) with
        | false =>
          rw [hc, cF] at ho
          have e := (Sum.inr.inj (Option.some.inj ho)).symm
          subst e
          exact hs
        | true =>
          rw [hc, cT] at ho
          simp only [Option.bind_eq_some_iff] at ho
          obtain ⟨v1, h1, _, _, u1, e1, v2, h2, _, _, u2, e2, e⟩ := ho
          cases e
  · intro s hs o ho
    obtain ⟨i, u⟩ := s
    unfold T_girderlaw12_mirrored_b9 at ho
    dsimp only at ho
    cases hc : decide (i < m) with
    | false =>
      rw [hc, cF] at ho
      have e := (Sum.inr.inj (Option.some.inj ho)).symm
      subst e
      exact hs
    | true =>
      rw [hc, cT] at ho
      simp only [Option.bind_eq_some_iff] at ho
      obtain ⟨v, hv, e⟩ := ho
      cases e

/-! ### The law -/

theorem pick_t (x : Int) {n : Nat} (hn : 0 < n) (h : n < 1000000) : ∃ k : Nat, k < n ∧ T_girderkit_Pick x (n : Int) = some (k : Int) := by
  unfold T_girderkit_Pick
  rw [cond_f (by simp; omega)]
  have hz : nz (n : Int) = some () := by unfold nz; simp; omega
  have h1 : (x.tmod (n : Int)).natAbs < n := by
    rw [Int.natAbs_tmod]
    exact Nat.mod_lt _ (by simpa using hn)
  rw [hz, Option.bind_some]
  generalize x.tmod (n : Int) = r at h1
  by_cases hr : r < 0
  · refine ⟨(r + n).toNat, by omega, ?_⟩
    rw [cond_t (by simpa using hr), Option.bind_some, wrI (by omega) (by omega)]
    congr 1; omega
  · refine ⟨r.toNat, by omega, ?_⟩
    rw [cond_f (by simpa using hr), Option.bind_some]
    congr 1; omega
theorem ldexp_t : ∀ k : Nat, k < 41 → T_math_Ldexp (nf 4607182418800017408) (IntKind.i64.wrap ((k : Int) - 20)) = some (pow2F ((k : Int) - 20)) := by decide +kernel

theorem times_t {l : List Nat} (t : Nat) (hl : l.length ≤ 4096) : iter (T_girderlaw12_LowerScaled_b2 t) FU (0, l) = some (l.map fun x => fmul x t) := by
  have := iter_nat (b := T_girderlaw12_LowerScaled_b2 t) (fun k => (((k : Nat) : Int), ((l.take k).map fun x => fmul x t) ++ l.drop k)) (o := l.map fun x => fmul x t) l.length (by rw [FU_eq]; omega) (fun k hk => by
    have len : (((l.take k).map fun x => fmul x t) ++ l.drop k).length = l.length := by simp; omega
    have hd : (((l.take k).map fun x => fmul x t) ++ l.drop k).getD k 0 = l.getD k 0 := by
      rw [drop_cons hk, app_eq (by simp; omega)]
    unfold T_girderlaw12_LowerScaled_b2
    simp only [Option.bind_some]
    rw [cond_t (by rw [len]; simp; omega), at_getD 0 (by omega), Option.bind_some, Option.bind_some, hd]
    simp only [Int.toNat_natCast]
    rw [drop_cons hk, app_set (by simp; omega), wrU (by omega), take_last hk]
    simp) (by
    unfold T_girderlaw12_LowerScaled_b2
    simp)
  simpa using this

theorem scaled12 (q r k : Int) {l : List Nat} (hl : AllW l) : T_girderlaw12_LowerScaled q r l k = some true := by
  obtain ⟨⟨q', r', l'⟩, hm⟩ := mirrored_some q r l
  obtain ⟨t, L, D, e, x, hf, _, hL, hD⟩ := factor_same q' r' l'
  have hw := mirrored_w hl hm
  unfold T_girderlaw12_LowerScaled
  rw [awake12, Option.bind_some, Bool.not_true, cF, hm, Option.bind_some]
  dsimp only
  rw [hf, Option.bind_some]
  dsimp only
  by_cases he : e = 0
  · subst he
    obtain ⟨n, rfl, rfl, rfl, hS, hF⟩ := factor_run hf
    have hn := hS.n48
    have hnn : n * n ≤ 2304 := Nat.le_trans (Nat.mul_le_mul hn hn) (by omega)
    have lenL := hF.lenL
    have lenD := hF.lenD
    rw [even_t (by rw [hS.len]; omega), even_t (by omega), even_t (by omega)]
    simp only [bne_self_eq_false, Bool.not_false, cT, Option.bind_some, Bool.not_not]
    by_cases e1 : ∀ i, i < l'.length → evB (l'.getD i 0) = true
    · by_cases e2 : ∀ i, i < L.length → evB (L.getD i 0) = true
      · by_cases e3 : ∀ i, i < D.length → evB (D.getD i 0) = true
        · rw [decide_eq_true e1, decide_eq_true e2, decide_eq_true e3]
          simp only [cT, Option.bind_some, Bool.not_true, cF]
          obtain ⟨k', hk', hp⟩ := pick_t k (n := 41) (by omega) (by omega)
          rw [show (41 : Int) = ((41 : Nat) : Int) from rfl, hp, Option.bind_some, ldexp_t k' hk', Option.bind_some]
          have hp1 : -20 ≤ (k' : Int) - 20 := by omega
          have hp2 : (k' : Int) - 20 ≤ 20 := by omega
          generalize hpp : (k' : Int) - 20 = p at *
          have cp : ∀ m : List Nat, m.length ≤ 4096 → T_girderkit_CopyReals m = some m := fun m hm => by
            unfold T_girderkit_CopyReals
            simp only [List.map_nil]
            rw [app_le (by simp; omega)]; rfl
          have cm : T_girderkit_CopyMatrix (n : Int) (n : Int) l' = some ((n : Int), (n : Int), l') := by
            unfold T_girderkit_CopyMatrix
            rw [cp _ (by rw [hS.len]; omega)]; rfl
          rw [cm, Option.bind_some]
          dsimp only
          rw [times_t _ (by rw [hS.len]; omega), Option.bind_some, cp _ (by omega), Option.bind_some]
          have b4 : T_girderlaw12_LowerScaled_b4 = T_girderlaw12_LowerScaled_b2 := rfl
          rw [b4, times_t _ (by omega), Option.bind_some]
          have getM : ∀ (m : List Nat) (i : Nat), i < m.length → (m.map fun x => fmul x (pow2F p)).getD i 0 = fmul (m.getD i 0) (pow2F p) := fun m i hi => by
            simp [List.getD_eq_getElem?_getD, hi]
          have lw : ∀ i, l'.getD i 0 < 18446744073709551616 := hw.get
          have hl' : ∀ i, i < n * n → Mg 774 1374 (l'.getD i 0) ∧ Duo p 722 1374 (l'.getD i 0) ((l'.map fun x => fmul x (pow2F p)).getD i 0) := fun i hi => by
            have hi' : i < l'.length := by rw [hS.len]; exact hi
            have mg := ev_mg (e1 i hi')
            have gr : Gr 722 1374 (l'.getD i 0) := mg.gr (by omega)
            obtain ⟨k1, k2⟩ := sc_pow2 (p := p) gr (lw i) (by omega) (by omega) (by omega) (by omega) (by omega) (by omega)
            rw [getM _ _ hi']
            exact ⟨mg, gr, k1, lw i, k2⟩
          have hL' : ∀ i j, j < i → i < n → Mg 774 1374 (lowG L i j) := fun i j h1 h2 => ev_mg (e2 _ (by rw [lenL]; exact tri_lt h1 h2))
          have hDw : ∀ i, i < n → D.getD i 0 < 18446744073709551616 := by
            intro i hi
            by_cases i0 : D.getD i 0 < 18446744073709551616
            · exact i0
            · exfalso
              have d1 := (hF.dia i hi).1
              have mgD : ∀ i, i < n → Mg 774 1374 (D.getD i 0) := fun i hi => ev_mg (e3 i (by rw [lenD]; exact hi))
              have self : ∀ x, Mg 774 1374 x → Sc 0 x x := fun x h => by
                rcases h.mg with h0 | ⟨h1, _⟩
                · exact .inl ⟨h0, rfl⟩
                · right
                  have : 4503599627370496 ≤ magF x := by
                    by_cases c : magF x < 4503599627370496
                    · unfold vmag at h1
                      rw [if_pos c] at h1
                      have := Nat.pow_le_pow_right (show 0 < 2 by omega) (show 52 ≤ 774 by omega)
                      have p52 : (2 : Nat) ^ 52 = 4503599627370496 := by decide
                      omega
                    · omega
                  exact ⟨this, h.fin, this, h.fin, rfl, by omega⟩
              have c := colS_duo (p := 0) (by omega) (by omega) hn (l := l') (l' := l') (L := L) (D := D) (D' := D) (fun i hi => by
                have mg := (hl' i hi).1
                exact ⟨mg, mg.gr (by omega), self _ mg, lw i, lw i⟩) hL' (fun i hi => ⟨mgD i hi, self _ (mgD i hi)⟩) hi (Nat.le_refl i)
              exact i0 (d1 ▸ c.lx)
          have hD' : ∀ i, i < n → Mg 774 1374 (D.getD i 0) ∧ Sc p (D.getD i 0) ((D.map fun x => fmul x (pow2F p)).getD i 0) ∧ (D.map fun x => fmul x (pow2F p)).getD i 0 < 18446744073709551616 := fun i hi => by
            have hi' : i < D.length := by omega
            have mg := ev_mg (e3 i hi')
            obtain ⟨k1, k2⟩ := sc_pow2 (p := p) (mg.gr (by omega)) (hDw i hi) (by omega) (by omega) (by omega) (by omega) (by omega) (by omega)
            rw [getM _ _ hi']
            exact ⟨mg, k1, k2⟩
          have fac := scaled_fac hp1 hp2 hn hl' hL' (fun i hi => ⟨(hD' i hi).1, (hD' i hi).2.1⟩) (by simpa using lenD) (fun i hi => (hD' i hi).2.2) hF
          have squ : Squ n (l'.map fun x => fmul x (pow2F p)) := by
            refine ⟨hn, by simpa using hS.len, fun i j hi hj => ?_, fun i hi => ?_⟩
            · have x1 := idxL hi hj
              have x2 := idxL hj hi
              rw [getM _ _ (by rw [hS.len]; exact x1), getM _ _ (by rw [hS.len]; exact x2), hS.sym i j hi hj]
            · have hi' : i < n * n := by simpa [hS.len] using hi
              have := (hl' i hi').2
              have := sc_fin this.sc this.gr.fin
              simpa [finQ] using this
          rw [factor_of squ fac, Option.bind_some]
          dsimp only
          rw [sameReals_t (by omega), sameReals_t (by simp; omega)]
          simp
        · rw [decide_eq_true e1, decide_eq_true e2, decide_eq_false e3]; rfl
      · rw [decide_eq_true e1, decide_eq_false e2]; rfl
    · rw [decide_eq_false e1]; rfl
  · have : (!(e != 0)) = false := by simpa using he
    rw [this]; rfl

section
variable {N : Nums} {P : Program} (H : AllOk N P)
include H
theorem scaled12_f {q r k : Int} {sa : Option Addr} {na ma : Nat} {la : List Nat} {w : World} (hA : Reals w sa na ma la) (wa : ∀ y ∈ la, y < 18446744073709551616) :
    CallsX P N.f_girderlaw12_LowerScaled #[.agg #[.int .i64 q, .int .i64 r, .slice sa na ma], .int .i64 k] w fun v w' => v = .bool true ∧ ∃ M, St w w' M :=
  wk_girderlaw12_LowerScaled H (Ho.arg1 hA) (Ent.rd mp0) (scaled12 q r k (nf_words wa)) fun w1 h => ⟨rfl, h.some_old⟩
end
end Go.Eng
