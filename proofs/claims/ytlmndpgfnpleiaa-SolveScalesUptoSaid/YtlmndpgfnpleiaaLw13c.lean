/-
  The law SolveTurns. No condition.
-/
import Derived.Test.YtlmndpgfnpleiaaLw13
import Derived.Test.YtlmndpgfnpleiaaOpp
set_option linter.unusedVariables false
set_option linter.unusedSimpArgs false
set_option linter.unnecessarySimpa false
set_option linter.unusedSectionVars false
set_option maxRecDepth 1000000
set_option maxHeartbeats 4000000
namespace Go.Eng
open Go

theorem subN_opp {f g g' : Nat → Nat} {s s' : Nat} (hg : ∀ k, Opp (g k) (g' k)) (hs : Opp s s') : ∀ j, Opp (subN f g s j) (subN f g' s' j)
  | 0 => hs
  | j + 1 => opp_fsub (subN_opp hg hs j) (opp_fmul (hg j))
theorem getD_far {l : List Nat} {k : Nat} (h : l.length ≤ k) : l.getD k 0 = 0 := by
  rw [List.getD_eq_getElem?_getD, List.getElem?_eq_none h]; rfl
theorem fw_opp {l b b' : List Nat} (hb : ∀ i, Opp (b.getD i 0) (b'.getD i 0)) : ∀ i k, Opp ((fw l b i).getD k 0) ((fw l b' i).getD k 0)
  | 0, k => by simpa [fw] using opp_zero
  | i + 1, k => by
    have ih := fw_opp (l := l) hb i
    unfold fw
    rcases Nat.lt_trichotomy k i with h | h | h
    · rw [app_lt (by rw [fw_len]; exact h), app_lt (by rw [fw_len]; exact h)]; exact ih k
    · subst h
      rw [app_eq (fw_len l b k), app_eq (fw_len l b' k)]
      exact subN_opp ih (hb k) k
    · rw [getD_far (by simp [fw_len]; omega), getD_far (by simp [fw_len]; omega)]; exact opp_zero
theorem bk_opp {l : List Nat} {q q' : Nat → Nat} {n : Nat} (hq : ∀ i, Opp (q i) (q' i)) : ∀ k m, Opp ((bk l q n k).getD m 0) ((bk l q' n k).getD m 0)
  | 0, m => by simpa [bk] using opp_zero
  | k + 1, m => by
    have ih := bk_opp (l := l) (n := n) hq k
    unfold bk
    cases m with
    | zero => exact subN_opp ih (hq _) k
    | succ m => exact ih m

theorem opp_minus (x : Nat) : Opp x (nf (fneg x)) := by
  cases h : isNaN x with
  | true => exact .inl ⟨h, by rw [isNaN_nf, isNaN_fneg, h]⟩
  | false =>
    rw [nf_of_not (by rw [isNaN_fneg, h])]
    exact .inr ⟨h, (fneg_mag x).symm, .inr (fneg_neg x)⟩
/-- Two that are opposite to the same are equal, or both NaN. -/
theorem opp_both {x u v : Nat} (h : Opp x u) (k : Opp x v) : feq u v = true ∨ (isNaN u = true ∧ isNaN v = true) := by
  rcases h with ⟨h1, h2⟩ | ⟨h1, h2, h3⟩
  · rcases k with ⟨_, k2⟩ | ⟨k1, _⟩
    · exact .inr ⟨h2, k2⟩
    · rw [h1] at k1; cases k1
  · rcases k with ⟨k1, _⟩ | ⟨_, k2, k3⟩
    · rw [h1] at k1; cases k1
    · left
      rw [isNaN_mag] at h1
      have hm : ¬ 9218868437227405312 < magF x := by simpa using h1
      by_cases h0 : magF x = 0
      · unfold feq Ieee.Format.order
        rw [read_small (x := u) (by omega), read_small (x := v) (by omega), ← h2, ← k2, h0]
        cases negF u <;> cases negF v <;> rfl
      · have e : negF u = negF v := by rw [h3.resolve_left h0, k3.resolve_left h0]
        have er : Ieee.double.read u = Ieee.double.read v := by
          rcases Nat.lt_or_ge (magF x) 4503599627370496 with h | h
          · rw [read_small (x := u) (by omega), read_small (x := v) (by omega), ← h2, ← k2, e]
          · rcases Nat.lt_or_ge (magF x) 9218868437227405312 with g | g
            · rw [read_normal (x := u) (by omega) (by omega), read_normal (x := v) (by omega) (by omega), ← h2, ← k2, e]
            · rw [read_inf (x := u) (by omega), read_inf (x := v) (by omega), e]
        have := feq_self v
        unfold feq Ieee.Format.order at this ⊢
        rw [er, this, isNaN_mag, ← k2]
        simpa using hm

def minusL (l : List Nat) : List Nat := (List.range l.length).map fun k => nf (fneg (l.getD k 0))
theorem minus_t {l : List Nat} (h : l.length ≤ 1048576) : T_girderlaw13_minus l = some (minusL l) := by
  unfold T_girderlaw13_minus
  have := iter_nat (b := T_girderlaw13_minus_b2 l) (fun k => (((k : Nat) : Int), (List.range k).map fun k => nf (fneg (l.getD k 0)))) (o := minusL l) l.length (by rw [FU_eq]; omega) (fun k hk => by
    unfold T_girderlaw13_minus_b2
    simp only [Option.bind_some]
    rw [cond_t (by simp; omega), at_getD 0 hk, Option.bind_some, app_le (by simp; omega), Option.bind_some, map_range_snoc (G := fun k => nf (fneg (l.getD k 0))), wrU (by omega)]) (by
    unfold T_girderlaw13_minus_b2
    simp only [Option.bind_some]
    rw [cond_f (by simp)]; rfl)
  have this : iter (T_girderlaw13_minus_b2 l) FU (0, []) = some (minusL l) := this
  rw [show List.map nf [] = ([] : List Nat) from rfl, this]; rfl
theorem minusL_len (l : List Nat) : (minusL l).length = l.length := by simp [minusL]
theorem minusL_opp (l : List Nat) (i : Nat) : Opp (l.getD i 0) ((minusL l).getD i 0) := by
  rcases Nat.lt_or_ge i l.length with h | h
  · have : (minusL l).getD i 0 = nf (fneg (l.getD i 0)) := by simp [minusL, List.getD_eq_getElem?_getD, h]
    rw [this]; exact opp_minus _
  · rw [getD_far h, getD_far (by rw [minusL_len]; exact h)]; exact opp_zero

theorem equal_t {u v : List Nat} (hl : u.length = v.length) (h4 : u.length ≤ 4294967296) (h : ∀ i, i < u.length → feq (u.getD i 0) (v.getD i 0) = true ∨ (isNaN (u.getD i 0) = true ∧ isNaN (v.getD i 0) = true)) : T_girderlaw13_equal u v = some true := by
  unfold T_girderlaw13_equal
  simp only [Option.bind_some]
  rw [cond_f (by simp [hl])]
  have := iter_nat (b := T_girderlaw13_equal_b2 u v) (fun k => ((k : Nat) : Int)) (o := .inl ()) u.length (by rw [FU_eq]; omega) (fun k hk => by
    unfold T_girderlaw13_equal_b2
    simp only [Option.bind_some]
    rw [cond_t (by simp; omega)]
    simp only [at_getD 0 hk, at_getD 0 (show k < v.length by omega), Option.bind_some, feq_self]
    rw [wrU (by omega)]
    rcases h k hk with h | ⟨h1, h2⟩
    · rw [h]; rfl
    · rw [h1, h2]
      cases feq (u.getD k 0) (v.getD k 0) <;> rfl) (by
    unfold T_girderlaw13_equal_b2
    simp only [Option.bind_some]
    rw [cond_f (by simp)])
  rw [show ((0 : Nat) : Int) = 0 from rfl] at this
  rw [this]; rfl

theorem solve_bad {q : Int} {l d b : List Nat} (h : T_lower_Right q l d = some false ∨ T_lower_Right q l d = some true ∧ ((b.length : Nat) : Int) ≠ q) : T_solve_Solve q l d b = some ([], 4) := by
  unfold T_solve_Solve
  rw [(forward_bad h).1]; rfl
theorem inverse_zero {q : Int} {l d : List Nat} (hR : T_lower_Right q l d = some true) (hz : T_girderref13_zero q l d = some true) : T_solve_Inverse q l d = some (0, 0, [], 7) := by
  obtain ⟨r, c, x, e, h1, h2, _⟩ := inverse_same q l d
  have h3 : T_girderref13_Inverse q l d = some (0, 0, [], 7) := by
    unfold T_girderref13_Inverse
    rw [rright13, hR, Option.bind_some, cond_f (by rfl), hz]; rfl
  rw [h1, ← h2, h3]

theorem units_t {q : Int} {l d : List Nat} {n : Nat} (hR : T_lower_Right q l d = some true) (hq : q = n) (hn : n ≤ 48) (hl : l.length = tri n) (hd : d.length = n) (hz : T_girderref13_zero q l d = some false) :
    iter (T_girderlaw13_SolveTurns_b5 (n : Int) l d (grid n n (invG l d n))) FU 0 = some (.inl ()) := by
  have hnn : n * n ≤ 2304 := Nat.le_trans (Nat.mul_le_mul hn hn) (by omega)
  subst hq
  exact iter_nat (b := T_girderlaw13_SolveTurns_b5 (n : Int) l d (grid n n (invG l d n))) (fun k => ((k : Nat) : Int)) (o := .inl ()) (min n 8) (by rw [FU_eq]; omega) (fun c hc => by
    have hcn : c < n := by omega
    have inner := iter_nat (b := T_girderlaw13_SolveTurns_b7 (n : Int) 0 (solU l d n c) (grid n n (invG l d n)) (c : Int)) (fun k => ((k : Nat) : Int)) (o := .inl ()) n (by rw [FU_eq]; omega) (fun r hr => by
      unfold T_girderlaw13_SolveTurns_b7
      dsimp only
      rw [cond_t (by simp; omega), cond_t (by rfl), at_getD 0 (by rw [solU_len]; exact hr), Option.bind_some, wrIdx hr hcn (by omega), at_getD 0 (by rw [grid_len]; exact idxL hr hcn), Option.bind_some, grid_at hr hcn]
      have : T_girderkit_SameFloat ((solU l d n c).getD r 0) (invG l d n r c) = some true := by unfold T_girderkit_SameFloat invG; simp
      rw [this, Option.bind_some, Bool.not_true, cF, wrU (by omega)]) (by
      unfold T_girderlaw13_SolveTurns_b7
      dsimp only
      rw [cond_f (by simp)])
    rw [show ((0 : Nat) : Int) = 0 from rfl] at inner
    unfold T_girderlaw13_SolveTurns_b5
    dsimp only
    have h8 : decide ((c : Int) < 8) = true := by simp; omega
    rw [cond_t (by simp; omega), h8, Option.bind_some, cT, mk_nat (by omega), Option.bind_some, nf_zero, at_getD 0 (by simpa using hcn)]
    simp only [Option.bind_some, Int.toNat_natCast]
    rw [nf_one, unit_put hcn, ((solve_unit hR rfl hn hl hd (by simp [unitL])).2 hz).1, Option.bind_some]
    dsimp only
    show ((iter (T_girderlaw13_SolveTurns_b7 (n : Int) 0 (solU l d n c) (grid n n (invG l d n)) (c : Int)) FU 0).bind _) = _
    rw [inner, Option.bind_some, wrU (by omega)]) (by
    unfold T_girderlaw13_SolveTurns_b5
    dsimp only
    by_cases h : n ≤ 8
    · rw [Nat.min_eq_left h, cond_f (by simp)]; rfl
    · rw [Nat.min_eq_right (by omega), cond_t (by simp; omega)]; rfl)

theorem turns13 {q : Int} {l d b : List Nat} (hb4 : b.length ≤ 1048576) : T_girderlaw13_SolveTurns q l d b = some true := by
  unfold T_girderlaw13_SolveTurns
  have bad : (T_lower_Right q l d = some false ∨ T_lower_Right q l d = some true ∧ ((b.length : Nat) : Int) ≠ q) → T_girderlaw13_SolveTurns q l d b = some true := fun h => by
    unfold T_girderlaw13_SolveTurns
    rw [(forward_bad h).1, solve_bad h]
    simp only [Option.bind_some, awake13]
    rfl
  rcases right_cases q l d with ⟨hR, n, hq, hn, hl, hd⟩ | hR
  · by_cases hb : b.length = n
    · rw [(forward_good hR hq hn hl hb).1, Option.bind_some]
      dsimp only
      rcases back_good hR hq hn hl hd (fw_len l b n) with ⟨_, _, z, k1, _⟩ | ⟨_, z, k1, _⟩
      · rw [((solve_unit hR hq hn hl hd hb).1 z).1, Option.bind_some]
        dsimp only
        rw [cond_f (by rfl), k1, Option.bind_some, inverse_zero hR z]
        simp only [Option.bind_some, awake13]
        rw [sameReals_t (by simp)]
        rfl
      · have hs := ((solve_unit hR hq hn hl hd hb).2 z).1
        have hm := ((solve_unit hR hq hn hl hd (b := minusL b) (by rw [minusL_len, hb])).2 z).1
        have hi := (inverse_good hR hq hn hl hd z).1
        rw [hs, Option.bind_some]
        dsimp only
        rw [cond_f (by rfl), k1, Option.bind_some, hi]
        simp only [Option.bind_some]
        rw [sameReals_t (by rw [bk_len]; omega)]
        simp only [Option.bind_some, bne_self_eq_false, beq_self_eq_true, Bool.not_true, Bool.not_false, cT, cF]
        rw [minus_t hb4, Option.bind_some, hm, Option.bind_some]
        dsimp only
        have eq : T_girderlaw13_equal (bk l (quoG d (fw l (minusL b) n)) n n) (minusL (bk l (quoG d (fw l b n)) n n)) = some true := by
          refine equal_t (by rw [minusL_len, bk_len, bk_len]) (by rw [bk_len]; omega) fun i _ => ?_
          refine opp_both (x := (bk l (quoG d (fw l b n)) n n).getD i 0) ?_ (minusL_opp _ i)
          exact bk_opp (fun i => opp_fdiv (fw_opp (minusL_opp b) n i)) n i
        rw [minus_t (by rw [bk_len]; omega), Option.bind_some, eq]
        have hnn : n * n ≤ 2304 := Nat.le_trans (Nat.mul_le_mul hn hn) (by omega)
        have un := units_t hR hq hn hl hd z
        subst hq
        simp only [Option.bind_some, bne_self_eq_false, Bool.not_true, Bool.not_false, cT, cF, grid_len]
        rw [wrMul (by omega), bne_self_eq_false, cF, un]
        simp only [Option.bind_some, awake13]
    · exact bad (.inr ⟨hR, by omega⟩)
  · exact bad (.inl hR)

section
variable {N : Nums} {P : Program} (H : AllOk N P)
include H
theorem turns13_f {q : Int} {sa sb sc : Option Addr} {na ma nb mb nc mc : Nat} {la lb lc : List Nat} {w : World} (hA : Reals w sa na ma la) (hB : Reals w sb nb mb lb) (hC : Reals w sc nc mc lc) (hc : nc ≤ 1048576) :
    CallsX P N.f_girderlaw13_SolveTurns #[.agg #[.int .i64 q, .slice sa na ma, .slice sb nb mb], .slice sc nc mc] w fun v w' => v = .bool true ∧ ∃ M, St w w' M := by
  have hS := ((Ho.arg1 hC).arg (own_cons rfl own_nil) (.ofReals hB)).arg (own_cons rfl (own_cons rfl own_nil)) (.ofReals hA)
  exact wk_girderlaw13_SolveTurns H hS (Ent.rd mp0) (Ent.rd mp1) (Ent.rd mp2) (turns13 (by rw [List.length_map, hC.len]; exact hc)) fun w1 h => ⟨rfl, h.some_old⟩
end
end Go.Eng
