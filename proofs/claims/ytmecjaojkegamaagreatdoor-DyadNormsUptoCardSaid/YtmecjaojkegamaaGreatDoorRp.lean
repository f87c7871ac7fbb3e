/-
  Exact numbers, as the document reckons with them: sums, which is greater, by value. No condition.
-/
import Derived.Test.YtmecjaojkegamaaGreatDoorNr3
import Derived.Test.YtmecjaojkegamaaGreatDoorSg
set_option linter.unusedVariables false
set_option linter.unusedSimpArgs false
set_option linter.unnecessarySimpa false
set_option linter.unusedSectionVars false
set_option maxRecDepth 100000
set_option maxHeartbeats 400000
set_option exponentiation.threshold 70000
namespace Go.Eng
open Go

/-- A number's value in units of 2^K. -/
def nv (K : Int) (s : Bool) (n : Nat) (e : Int) : Int := sgN s n * ((2 ^ (e - K).toNat : Nat) : Int)
theorem sgN_zero (s : Bool) : sgN s 0 = 0 := by cases s <;> rfl
theorem nv_zero (K : Int) (s : Bool) (e : Int) : nv K s 0 e = 0 := by unfold nv; rw [sgN_zero, Int.zero_mul]
theorem nv_shift {K e : Int} {s : Bool} {n d : Nat} (h : K ≤ e) : nv K s (n * 2 ^ d) e = nv K s n (e + d) := by
  unfold nv
  have e1 : (e + (d : Int) - K).toNat = d + (e - K).toNat := by omega
  rw [e1, Nat.pow_add, Int.natCast_mul, ← Int.mul_assoc]
  congr 1
  unfold sgN
  cases s <;> simp [Int.natCast_mul, Int.neg_mul]
theorem nv_sum {K e : Int} {s t u : Bool} {n k p : Nat} (h : sgN u p = sgN s n + sgN t k) : nv K u p e = nv K s n e + nv K t k e := by
  unfold nv
  rw [h, Int.add_mul]
theorem LWl {n : Nat} {b : Nat} (h : blN n ≤ b) : (LW n).length ≤ b / 64 + 1 := LW_len' (blN_le.1 h) (by omega)

theorem plus_core {s t : Bool} {n k : Nat} {e f : Int} (hn : blN n ≤ 33554432) (hk : blN k ≤ 33554432) (he : e ≤ f) (h1 : -33554432 ≤ e) (h2 : f ≤ 33554432) : ∃ u p, ((T_girderref02_NatUp (LW k) (IntKind.i64.wrap (f - e))).bind fun t6 =>
              cond (s == t)
                ((T_girderref02_NatAdd (LW n) t6).bind fun t7 =>
                  some (s, t7, e))
                ((T_girderref02_NatCmp (LW n) t6).bind fun t8 =>
                  cond (decide (t8 ≥ 0))
                    ((T_girderref02_NatSub (LW n) t6).bind fun t9 =>
                      some (s, t9, e))
                    ((T_girderref02_NatSub t6 (LW n)).bind fun t10 =>
                      some (t, t10, e)))) = some (u, LW p, e) ∧ ∀ K, K ≤ e → nv K u p e = nv K s n e + nv K t k f := by
  obtain ⟨d, hd⟩ : ∃ d : Nat, f - e = d := ⟨(f - e).toNat, by omega⟩
  have l1 := LWl hn
  have l2 := LWl hk
  have hbk : blN (k * 2 ^ d) ≤ 100663296 := by
    by_cases c : k = 0
    · subst c; rw [Nat.zero_mul]; exact Nat.zero_le _
    · rw [blN_shift _ _ c]; omega
  have l3 := LWl hbk
  rw [wrI (by omega) (by omega), hd, natUp_t (LW_ld k) (by omega) (by omega), lv_LW, Option.bind_some]
  have hv : ∀ K, K ≤ e → nv K t k f = nv K t (k * 2 ^ d) e := fun K hK => by
    rw [nv_shift hK]; congr 1; omega
  generalize k * 2 ^ d = m at *
  by_cases c : s = t
  · subst c
    rw [cond_t (by simp), natAdd_t (LW_ld n) (LW_ld m) (by omega) (by omega), lv_LW, lv_LW]
    refine ⟨s, n + m, rfl, fun K hK => ?_⟩
    rw [hv K hK]
    refine nv_sum ?_
    unfold sgN
    cases s <;> simp <;> omega
  · have hst : t = !s := by cases s <;> cases t <;> simp at c ⊢
    rw [cond_f (by rw [beq_eq_false_iff_ne]; exact c), natCmp_t (LW_ld n) (LW_ld m) (by omega) (by omega), lv_LW, lv_LW, Option.bind_some]
    by_cases g : n < m
    · rw [if_pos g, cond_f (by rfl), natSub_t (LW_ld m) (LW_ld n) (by omega) (by omega) (by rw [lv_LW, lv_LW]; omega), lv_LW, lv_LW]
      refine ⟨t, m - n, rfl, fun K hK => ?_⟩
      rw [hv K hK]
      refine nv_sum ?_
      subst hst
      unfold sgN
      cases s <;> simp <;> omega
    · have e0 : decide ((if n < m then (-1 : Int) else if n = m then 0 else 1) ≥ 0) = true := by
        rw [if_neg g]
        split <;> rfl
      rw [e0, cT, natSub_t (LW_ld n) (LW_ld m) (by omega) (by omega) (by rw [lv_LW, lv_LW]; omega), lv_LW, lv_LW]
      refine ⟨s, n - m, rfl, fun K hK => ?_⟩
      rw [hv K hK]
      refine nv_sum ?_
      subst hst
      unfold sgN
      cases s <;> simp <;> omega

/-- Sums. -/
theorem plus_e {s t : Bool} {n k : Nat} {e f : Int} (hn : blN n ≤ 33554432) (hk : blN k ≤ 33554432) (he1 : -33554432 ≤ e) (he2 : e ≤ 33554432) (hf1 : -33554432 ≤ f) (hf2 : f ≤ 33554432) :
    ∃ u p g, T_girderref02_Plus s (LW n) e t (LW k) f = some (u, LW p, g) ∧ min e f ≤ g ∧ g ≤ max e f ∧ ∀ K, K ≤ e → K ≤ f → nv K u p g = nv K s n e + nv K t k f := by
  have l1 := LWl hn
  have l2 := LWl hk
  unfold T_girderref02_Plus
  rw [zero_t (LW_ld n) (by omega), lv_LW, Option.bind_some]
  by_cases n0 : n = 0
  · rw [decide_eq_true n0, cT]
    exact ⟨t, k, f, rfl, by omega, by omega, fun K _ _ => by rw [n0, nv_zero, Int.zero_add]⟩
  · rw [decide_eq_false n0, cF, zero_t (LW_ld k) (by omega), lv_LW, Option.bind_some]
    by_cases k0 : k = 0
    · rw [decide_eq_true k0, cT]
      exact ⟨s, n, e, rfl, by omega, by omega, fun K _ _ => by rw [k0, nv_zero, Int.add_zero]⟩
    · rw [decide_eq_false k0, cF]
      by_cases c : e > f
      · rw [decide_eq_true c, cT]
        unfold T_girderref02_Plus1
        rw [zero_t (LW_ld k) (by omega), lv_LW, Option.bind_some, decide_eq_false k0, cF, zero_t (LW_ld n) (by omega), lv_LW, Option.bind_some, decide_eq_false n0, cF, cond_f (by rw [decide_eq_false_iff_not]; omega)]
        obtain ⟨u, p, h1, h2⟩ := plus_core (s := t) (t := s) hk hn (show f ≤ e by omega) hf1 he2
        rw [h1, Option.bind_some]
        exact ⟨u, p, f, rfl, by omega, by omega, fun K hK1 hK2 => by rw [h2 K hK2]; omega⟩
      · rw [decide_eq_false c, cF]
        obtain ⟨u, p, h1, h2⟩ := plus_core (s := s) (t := t) hn hk (show e ≤ f by omega) he1 hf2
        rw [h1]
        exact ⟨u, p, e, rfl, by omega, by omega, fun K hK1 hK2 => h2 K hK1⟩

theorem minus_nv (K : Int) (s : Bool) (n : Nat) (e : Int) : nv K (!s) n e = - nv K s n e := by
  unfold nv sgN
  cases s <;> simp [Int.neg_mul]

theorem nsign_e {s : Bool} {n : Nat} {e : Int} (hn : blN n ≤ 134217728) (K : Int) : T_girderref02_Num_Sign s (LW n) e = some (sgZ' (nv K s n e)) := by
  have l1 := LWl hn
  have hp : (0 : Int) < ((2 ^ (e - K).toNat : Nat) : Int) := by have := Nat.two_pow_pos (e - K).toNat; omega
  unfold T_girderref02_Num_Sign
  rw [zero_t (LW_ld n) (by omega), lv_LW, Option.bind_some]
  by_cases n0 : n = 0
  · rw [decide_eq_true n0, cT, n0, nv_zero]; rfl
  · rw [decide_eq_false n0, cF]
    unfold nv sgN sgZ'
    generalize ((2 ^ (e - K).toNat : Nat) : Int) = P at hp
    have hpos : 0 < (n : Int) * P := Int.mul_pos (by omega) hp
    cases s with
    | false =>
      rw [cF]
      simp only [Bool.false_eq_true, if_false]
      rw [if_neg (by omega), if_neg (by omega)]
    | true =>
      rw [cT]
      simp only [if_true]
      rw [Int.neg_mul, if_pos (by omega)]

theorem nv_abs (K : Int) (s : Bool) (n : Nat) (e : Int) : (nv K s n e).natAbs = n * 2 ^ (e - K).toNat := by
  unfold nv
  rw [Int.natAbs_mul, Int.natAbs_natCast, sgN_abs]

theorem blN_mono {a b : Nat} (h : a ≤ b) : blN a ≤ blN b := blN_le.2 (Nat.lt_of_le_of_lt h (blN_le.1 (Nat.le_refl _)))
theorem blN_mul_le {n a d c : Nat} (h : blN n ≤ a) (hd : a + d ≤ c) : blN (n * 2 ^ d) ≤ c := by
  by_cases h0 : n = 0
  · subst h0; rw [Nat.zero_mul]; exact Nat.zero_le _
  · rw [blN_shift _ _ h0]; omega
theorem sum_bl {x y z : Int} {a : Nat} (h : z = x + y) (hx : blN x.natAbs ≤ a) (hy : blN y.natAbs ≤ a) : blN z.natAbs ≤ a + 1 := by
  have h1 := blN_le.1 hx
  have h2 := blN_le.1 hy
  refine blN_le.2 ?_
  rw [Nat.pow_succ]
  generalize 2 ^ a = Q at *
  omega

/-- Which is greater. -/
theorem compare_e {s t : Bool} {n k : Nat} {e f K : Int} (hn : blN n ≤ 33554432) (hk : blN k ≤ 33554432) (he1 : -33554432 ≤ e) (he2 : e ≤ 33554432) (hf1 : -33554432 ≤ f) (hf2 : f ≤ 33554432) (K1 : K ≤ e) (K2 : K ≤ f) :
    T_girderref02_Compare s (LW n) e t (LW k) f = some (cmpZ (nv K s n e) (nv K t k f)) := by
  have l1 := LWl hn
  have l2 := LWl hk
  have n1 := nv_abs K s n e
  have n2 := nv_abs K t k f
  unfold T_girderref02_Compare
  rw [nsign_e (by omega) K, Option.bind_some, nsign_e (by omega) K, Option.bind_some]
  have hplus := plus_e (s := s) (t := !t) hn hk he1 he2 hf1 hf2
  have hm := minus_nv K t k f
  obtain ⟨u, p, g, p1, p2, p3, p4⟩ := hplus
  have p5 := p4 K K1 K2
  rw [hm] at p5
  have hb : blN p ≤ 134217728 := by
    -- by the value, at the least of both places
    have q := p4 (min e f) (by omega) (by omega)
    have a1 := nv_abs (min e f) u p g
    have a2 := nv_abs (min e f) s n e
    have a3 := nv_abs (min e f) (!t) k f
    have b1 : blN (nv (min e f) s n e).natAbs ≤ 134217727 := by
      rw [a2]; exact blN_mul_le hn (by omega)
    have b2 : blN (nv (min e f) (!t) k f).natAbs ≤ 134217727 := by
      rw [a3]; exact blN_mul_le hk (by omega)
    have b3 := sum_bl q b1 b2
    rw [a1] at b3
    exact Nat.le_trans (blN_mono (Nat.le_mul_of_pos_right _ (Nat.two_pow_pos _))) b3
  have bX : n ≠ 0 → blN (nv K s n e).natAbs = blN n + (e - K).toNat := fun h => by rw [n1]; exact blN_shift _ _ h
  have bY : k ≠ 0 → blN (nv K t k f).natAbs = blN k + (f - K).toNat := fun h => by rw [n2]; exact blN_shift _ _ h
  have zX : n = 0 → nv K s n e = 0 := fun h => by rw [h, nv_zero]
  have zY : k = 0 → nv K t k f = 0 := fun h => by rw [h, nv_zero]
  have sp := nsign_e (s := u) (e := g) hb K
  rw [p5] at sp
  generalize hX : nv K s n e = X at *
  generalize hY : nv K t k f = Y at *
  clear n1 n2
  have test : (cond (!(sgZ' X != sgZ' Y)) (some (sgZ' X == 0)) (some true)) = some (decide (sgZ' X ≠ sgZ' Y ∨ sgZ' X = 0)) := by
    by_cases c : sgZ' X = sgZ' Y
    · have e1 : (sgZ' X != sgZ' Y) = false := by rw [bne_eq_false_iff_eq]; exact c
      rw [e1, Bool.not_false, cT]
      congr 1
      rw [Bool.eq_iff_iff, beq_iff_eq, decide_eq_true_eq]
      exact ⟨.inr, fun h => h.resolve_left fun k => k c⟩
    · have e1 : (sgZ' X != sgZ' Y) = true := by rw [bne_iff_ne]; exact c
      rw [e1, Bool.not_true, cF, decide_eq_true (.inl c)]
  rw [test, Option.bind_some]
  by_cases c : sgZ' X ≠ sgZ' Y ∨ sgZ' X = 0
  · rw [decide_eq_true c, cT]
    unfold cmpZ
    rcases sgZ_cases X with ⟨a1, a2⟩ | ⟨a1, a2⟩ | ⟨a1, a2⟩ <;> rcases sgZ_cases Y with ⟨b1, b2⟩ | ⟨b1, b2⟩ | ⟨b1, b2⟩ <;> rw [a2, b2] at c ⊢
    · exact absurd c (by decide)
    · rw [if_pos (by omega)]; rfl
    · rw [if_pos (by omega)]; rfl
    · rw [if_neg (by omega), if_neg (by omega)]; rfl
    · rw [if_neg (by omega), if_pos (by omega)]; rfl
    · rw [if_pos (by omega)]; rfl
    · rw [if_neg (by omega), if_neg (by omega)]; rfl
    · rw [if_neg (by omega), if_neg (by omega)]; rfl
    · exact absurd c (by decide)
  · rw [decide_eq_false c, cF]
    have hse : sgZ' X = sgZ' Y := Classical.byContradiction fun k => c (.inl k)
    have hs0 : sgZ' X ≠ 0 := fun k => c (.inr k)
    have x0 : X ≠ 0 := fun k => hs0 (by rw [k]; rfl)
    have y0 : Y ≠ 0 := fun k => hs0 (by rw [hse, k]; rfl)
    have n0 : n ≠ 0 := fun k => x0 (zX k)
    have k0 : k ≠ 0 := fun k => y0 (zY k)
    have bX := bX n0
    have bY := bY k0
    rw [ntop_t (LW_ld n) (by omega) (by omega) (by omega), Option.bind_some, ntop_t (LW_ld k) (by omega) (by omega) (by omega), Option.bind_some, lv_LW, lv_LW]
    by_cases c3 : e + (blN n : Int) = f + (blN k : Int)
    · rw [cond_f (by rw [bne_eq_false_iff_eq]; exact c3)]
      unfold T_girderref02_Minus
      rw [Option.bind_some]
      dsimp only
      rw [p1, Option.bind_some]
      dsimp only
      rw [sp, Option.bind_some, cmp_sgn]; rfl
    · rw [cond_t (by rw [bne_iff_ne]; exact c3), Option.bind_some, Option.bind_some]
      unfold cmpZ
      by_cases c4 : e + (blN n : Int) < f + (blN k : Int)
      · have := blN_lt_of (a := X.natAbs) (b := Y.natAbs) (by omega)
        rw [cond_t (by rw [decide_eq_true_eq]; exact c4)]
        rcases sgZ_cases X with ⟨a, b⟩ | ⟨a, b⟩ | ⟨a, b⟩
        · have : Y < 0 := by rcases sgZ_cases Y with ⟨c, d⟩ | ⟨c, d⟩ | ⟨c, d⟩ <;> omega
          rw [b, if_neg (by omega), if_neg (by omega)]; rfl
        · exact absurd a x0
        · have : 0 < Y := by rcases sgZ_cases Y with ⟨c, d⟩ | ⟨c, d⟩ | ⟨c, d⟩ <;> omega
          rw [b, if_pos (by omega)]; rfl
      · have := blN_lt_of (a := Y.natAbs) (b := X.natAbs) (by omega)
        rw [cond_f (by rw [decide_eq_false_iff_not]; exact c4)]
        rcases sgZ_cases X with ⟨a, b⟩ | ⟨a, b⟩ | ⟨a, b⟩
        · have : Y < 0 := by rcases sgZ_cases Y with ⟨c, d⟩ | ⟨c, d⟩ | ⟨c, d⟩ <;> omega
          rw [b, if_pos (by omega)]
        · exact absurd a x0
        · have : 0 < Y := by rcases sgZ_cases Y with ⟨c, d⟩ | ⟨c, d⟩ | ⟨c, d⟩ <;> omega
          rw [b, if_neg (by omega), if_neg (by omega)]

end Go.Eng
