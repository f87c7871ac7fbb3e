/-
  DyadScales, the plain law: every dyad times every power of two is what the document says. Its condition: limbs that are limbs, and not too many of them (the statement's own).
-/
import Derived.Test.YtmecjaojkegamaaDoorNr1
import Derived.Test.YtmecjaojkegamaaDoorDyM
import Derived.Test.YtmecjaojkegamaaDoorWk
import Derived.Test.YtmecjaojkegamaaDoorLw0
import Derived.Test.YtmecjaojkegamaaDoorRow2
set_option linter.unusedVariables false
set_option linter.unusedSimpArgs false
set_option linter.unnecessarySimpa false
set_option linter.unusedSectionVars false
set_option maxRecDepth 100000
set_option maxHeartbeats 400000
set_option exponentiation.threshold 140000
namespace Go.Eng
open Go

theorem canoLen {z e : Int} : (cano z e).2.1.length ≤ 256 := by
  rcases cano_out z e with h | ⟨s, l, f, h, hg, _⟩
  · rw [h]; decide
  · rw [h]; exact hg.ld.2.1
theorem cano_same (z e : Int) : T_girderkit_SameDyad (cano z e).1 (cano z e).2.1 (cano z e).2.2.1 (cano z e).1 (cano z e).2.1 (cano z e).2.2.1 = some true := by
  have := canoLen (z := z) (e := e)
  rw [dyad_same (by omega)]; simp

theorem scale_e {s : Bool} {l : List Int} {e n : Int} (hl : Ld l) (kl : l.length ≤ 1048576) : ∃ z f, (∃ y, T_dyad_Scale s l e n = some y ∧ T_girderref02_Scale s l e n = some y ∧ (y = cano z f ∨ y = (false, [], 0, 2))) := by
  obtain ⟨b, hb, hbg⟩ := dright_t (s := s) (e := e) hl (by omega)
  unfold T_dyad_Scale T_girderref02_Scale
  rw [right_e s e hl, hb]
  simp only [Option.bind_some]
  cases b with
  | false => exact ⟨0, 0, (false, [], 0, 2), rfl, rfl, .inr rfl⟩
  | true =>
    have hg := hbg.1 rfl
    have hd := hg.ld
    rw [Bool.not_true, cF, cF]
    by_cases c : l = []
    · subst c
      exact ⟨0, 0, nilD, rfl, rfl, .inl rfl⟩
    · have hlen : (((l.length : Nat) : Int) == 0) = false := by
        have : l.length ≠ 0 := fun h => c (List.eq_nil_of_length_eq_zero h)
        rw [beq_eq_false_iff_ne]; omega
      rw [hlen, cF, cF]
      by_cases c1 : n > 131072
      · refine ⟨1, 70000, longD, ?_, ?_, .inl (by decide)⟩ <;> rw [decide_eq_true c1] <;> rfl
      · rw [decide_eq_false c1, Bool.not_false, cT, Option.bind_some]
        by_cases c2 : n < -131072
        · refine ⟨1, 70000, longD, ?_, ?_, .inl (by decide)⟩ <;> rw [decide_eq_true c2] <;> rfl
        · rw [decide_eq_false c2, cF, Option.bind_some, cF, whole_gd hg, Option.bind_some, wrI (n := e + n) (by omega) (by omega), made_t (k := 16384) (by rw [zD_abs]; exact hd.2.2.2.2) (by omega), refDyad_t hl (by omega), Option.bind_some, Option.bind_some]
          dsimp only
          rw [wrI (n := e + n) (by omega) (by omega), refTold_t (LW_ld _) (by have := LW_len (lv_lt hl); omega), zD_LW]
          exact ⟨zD s l, e + n, _, rfl, rfl, .inl rfl⟩

theorem scales02 {s : Bool} {l : List Int} {e n : Int} (hl : Ld l) (kl : l.length ≤ 1048576) : T_girderlaw02_DyadScales s l e n = some true := by
  have lent : T_girderkit_LentDyad s l e = some (s, l, e) := by
    unfold T_girderkit_LentDyad T_girderkit_LentLimbs
    rw [cond_t (by rw [decide_eq_true_eq]; omega)]; rfl
  have kept : T_girderkit_KeptDyad s l e s l e = some true := by
    unfold T_girderkit_KeptDyad T_girderkit_KeptLimbs
    rw [dyad_same (by omega), Option.bind_some, cond_t (by simp), cond_t (by rw [decide_eq_true_eq]; omega)]; rfl
  have over : ovr l = some () := by unfold ovr; rw [if_pos (by omega)]
  obtain ⟨z, f, y, h1, h2, h3⟩ := scale_e (s := s) (e := e) (n := n) hl kl
  unfold T_girderlaw02_DyadScales
  rw [awake02, Option.bind_some, Bool.not_true, cF, lent, Option.bind_some]
  dsimp only
  rw [h1, Option.bind_some]
  obtain ⟨y1, y2, y3, y4⟩ := y
  dsimp only
  rw [kept, Option.bind_some, over, Option.bind_some, h2, Option.bind_some]
  dsimp only
  rw [cT, cond_t (by simp)]
  rcases h3 with h3 | h3
  · have := cano_same z f
    rw [← h3] at this
    dsimp only at this
    rw [this]; rfl
  · injection h3 with a h3
    injection h3 with b h3
    injection h3 with c d
    subst a; subst b; subst c
    rfl
section
variable {N : Nums} {P : Program} (H : AllOk N P)
include H
theorem scales02_f {b0 : Bool} {e0 n : Int} {sa : Option Addr} {na ma : Nat} {la : List Int} {w : World} (hA : rdA (la.map (Value.int .u64)) sa na ma w)
    (ka : na ≤ 1048576) (wa : ∀ y ∈ la, (Lit.int .u64 y).wf = true) (hG : tab64 N.g_1 w) :
    CallsX P N.f_girderlaw02_DyadScales #[.agg #[.bool b0, .slice sa na ma, .int .i64 e0], .int .i64 n] w fun v w' => v = .bool true ∧ ∃ M, St w w' M := by
  have ld : ∀ {l : List Int}, (∀ y ∈ l, (Lit.int .u64 y).wf = true) → Ld l := fun h y hy => by
    have := h y hy
    simp [Lit.wf, IntKind.min, IntKind.max, IntKind.signed, IntKind.bits] at this
    omega
  have len : la.length ≤ 1048576 := by
    have := hA.1
    simp at this
    omega
  have hS := ((Ho.start w).arg own_nil hG).arg (own_cons rfl own_nil) hA
  exact wk_girderlaw02_DyadScales H hS (Ent.rd mp0) (Ent.rd mp1) (scales02 (ld wa) len) fun w1 h => ⟨rfl, h.some_old⟩
end
end Go.Eng
