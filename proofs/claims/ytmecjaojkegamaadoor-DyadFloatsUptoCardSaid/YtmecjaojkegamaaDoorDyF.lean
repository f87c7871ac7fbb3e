/-
  DyadFloats, the plain law: a finite float's dyad is rounded to it by every way, to the bit, and fits; what is told of it is right. Its condition: a word that is a word (the statement's own).
-/
import Derived.Test.YtmecjaojkegamaaDoorRd
import Derived.Test.YtmecjaojkegamaaDoorDy4
import Derived.Test.YtmecjaojkegamaaDoorDyM
import Derived.Test.YtmecjaojkegamaaDoorWk
import Derived.Test.YtmecjaojkegamaaDoorLw0
import Derived.Test.YtmecjaojkegamaaDoorRow2
set_option linter.unusedVariables false
set_option linter.unusedSimpArgs false
set_option linter.unnecessarySimpa false
set_option linter.unusedSectionVars false
set_option maxRecDepth 100000
set_option maxHeartbeats 400000
set_option exponentiation.threshold 140000
namespace Go.Eng
open Go

/-- What is a float exactly is rounded to it. -/
theorem rF_ex {s : Bool} {f : Nat} {p m : Int} (h : Ex f p) : rF s f p m = Ieee.double.nearest s f p := by
  have hlo := h.lo
  have hhi := h.hi
  have hlt := h.lt
  have hb := blN_log h.ne
  have hlog := h.log
  have hL : rL f p ≤ p := by unfold rL; omega
  have hne := h.ne
  unfold rF rS
  rw [if_neg hne, if_pos hL]
  obtain ⟨d, hd⟩ : ∃ d : Nat, p - rL f p = d := ⟨(p - rL f p).toNat, by omega⟩
  rw [hd, Int.toNat_natCast]
  unfold fltV
  rw [blN_shift _ _ hne, if_neg (by omega), nearest_shift s hne]
  congr 1; omega

theorem own_gd {x : Nat} (h : magF x < 9218868437227405312) (h0 : magF x ≠ 0) : Gd (negF x) [(oF (magF x) : Int)] (oP (magF x)) := by
  obtain ⟨ex, odd, hn, hv⟩ := own_ex h0 h
  have hlo := ex.lo
  have hhi := ex.hi
  have hlt := ex.lt
  have hne := ex.ne
  refine .inr ⟨oF (magF x), odd, (LW_one hne (by omega)).symm, by omega, by omega, ?_⟩
  have : blN (oF (magF x)) ≤ 53 := blN_le.2 hlt
  omega
theorem of_own {x : Nat} (h : magF x < 9218868437227405312) (h0 : magF x ≠ 0) : T_dyad_Of x = some (negF x, [(oF (magF x) : Int)], oP (magF x), 0) := by
  have := cano_gd (own_gd h h0)
  rw [of_e h, cano_own h h0, ← this]
  have e : zD (negF x) [(oF (magF x) : Int)] = sgN (negF x) (oF (magF x)) := by unfold zD; simp [lv]
  rw [e]

theorem fits_own {x : Nat} (h : magF x < 9218868437227405312) (h0 : magF x ≠ 0) : T_dyad_Fits (negF x) [(oF (magF x) : Int)] (oP (magF x)) = some true := by
  obtain ⟨ex, odd, hn, hv⟩ := own_ex h0 h
  have hg := own_gd h h0
  have hlo := ex.lo
  have hhi := ex.hi
  have hlt := ex.lt
  have hne := ex.ne
  have hb := blN_log hne
  have hb53 : blN (oF (magF x)) ≤ 53 := blN_le.2 hlt
  have hlv : lv [(oF (magF x) : Int)] = oF (magF x) := by simp [lv]
  have hz : zD (negF x) [(oF (magF x) : Int)] ≠ 0 := fun c => by
    have := zD_abs (negF x) [(oF (magF x) : Int)]
    rw [c, hlv] at this
    exact hne this.symm
  have ht := top_gd hg hz
  rw [hlv] at ht
  unfold T_dyad_Fits
  generalize oF (magF x) = f at *
  generalize oP (magF x) = p at *
  have e0 : atI [(f : Int)] 0 = some (f : Int) := rfl
  rw [right_of hg, Option.bind_some, Bool.not_true, cF, Option.bind_some, cond_f (by rfl), cond_t (by rw [decide_eq_true_eq]; omega), ht, Option.bind_some, cond_t (by rw [decide_eq_true_eq]; omega), Option.bind_some, cond_t (by rfl), e0, Option.bind_some, len64_e (by omega), Option.bind_some, decide_eq_true (by omega)]

theorem floats02 {x : Nat} {m : Int} (hx : x < 18446744073709551616) : T_girderlaw02_DyadFloats x m = some true := by
  have hz0 : nf 0 = 0 := nf_zero
  have hfin : T_girderkit_Finite x = some (decide (magF x < 9218868437227405312)) := by
    unfold T_girderkit_Finite
    rw [Option.bind_some, hz0, finite_sub]; rfl
  unfold T_girderlaw02_DyadFloats
  rw [awake02, Option.bind_some, Bool.not_true, cF, hfin]
  by_cases h : magF x < 9218868437227405312
  · rw [decide_eq_true h, hz0, feq_zero, fgt_zero, flt_zero]
    by_cases h0 : magF x = 0
    · have e : T_dyad_Of x = some nilD := by rw [of_e h, (sval_zero x).2 h0]; rfl
      rw [e, h0]
      have g0 : Gd false [] 0 := .inl ⟨rfl, rfl, rfl⟩
      have hr := round_e (m := m) g0
      have e2 : rF false (lv []) 0 m = 0 := rfl
      have hs := sign_gd g0
      have e3 : sgZ' (nD false [] 0) = 0 := by decide +kernel
      have hq := right_of g0
      have hf : T_dyad_Fits false [] 0 = some true := by
        unfold T_dyad_Fits
        rw [hq]; rfl
      rw [e2] at hr
      rw [e3] at hs
      unfold nilD
      simp only [Option.bind_some, Bool.not_true, cF, hr, hs, hf, hq, T_girderkit_SameFloat]
      cases negF x <;> rfl
    · obtain ⟨ex, odd, hn, hv⟩ := own_ex h0 h
      have hg := own_gd h h0
      have hlv : lv [(oF (magF x) : Int)] = oF (magF x) := by simp [lv]
      have hr := round_e (m := m) hg
      rw [hlv, rF_ex ex, near_sign ex, hn, ← word_eq hx] at hr
      have hs := sign_gd hg
      have e3 : sgZ' (nD (negF x) [(oF (magF x) : Int)] (oP (magF x))) = if negF x then -1 else 1 := by
        rw [nD_sgn]
        unfold zD sgN sgZ'
        rw [hlv]
        have := ex.ne
        generalize oF (magF x) = f at *
        clear hr hs hg hlv hn hv odd ex
        cases negF x with
        | false =>
          have q1 : ¬ ((f : Nat) : Int) < 0 := by omega
          have q2 : ¬ ((f : Nat) : Int) = 0 := by omega
          simp only [Bool.false_eq_true, if_false]
          rw [if_neg q1, if_neg q2]
        | true =>
          have q1 : -((f : Nat) : Int) < 0 := by omega
          simp only [if_true]
          rw [if_pos q1]
      rw [e3] at hs
      rw [of_own h h0]
      simp only [Option.bind_some, Bool.not_true, cF, hr, hs, fits_own h h0, right_of hg, T_girderkit_SameFloat]
      rw [decide_eq_false h0, decide_eq_true (show magF x ≤ 9218868437227405312 by omega), decide_eq_true (show magF x ≠ 0 from h0)]
      cases negF x <;> simp
  · have hd : T_girderkit_SameDyad false [] 0 false [] 0 = some true := by rw [dyad_same (by simp)]; rfl
    rw [decide_eq_false h, of_bad h]
    simp only [Option.bind_some, Bool.not_false, cT, hd]
    rfl
section
variable {N : Nums} {P : Program} (H : AllOk N P)
include H
theorem floats02_f {x0 : Nat} {n : Int} {w : World} (wx : (Lit.float .f64 x0).wf = true) (hG : tab64 N.g_1 w) :
    CallsX P N.f_girderlaw02_DyadFloats #[.float .f64 x0, .int .i8 n] w fun v w' => v = .bool true ∧ ∃ M, St w w' M := by
  have hx : nf x0 < 18446744073709551616 := nf_words (l := [x0]) (fun p hp => by
    rw [List.mem_singleton.1 hp]
    simpa [Lit.wf] using wx) _ (List.mem_map.2 ⟨x0, by simp, rfl⟩)
  exact wk_girderlaw02_DyadFloats H ((Ho.start w).arg own_nil hG) (Ent.rd mp0) (floats02 hx) fun w1 h => ⟨rfl, h.some_old⟩
end
end Go.Eng
