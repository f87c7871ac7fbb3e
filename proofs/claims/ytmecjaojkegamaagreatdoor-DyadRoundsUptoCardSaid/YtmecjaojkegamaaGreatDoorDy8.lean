/-
  DyadRounds, the plain law: every dyad by every way of rounding is what the document says, to the bit. Its condition: limbs that are limbs, and not too many of them (the statement's own).
-/
import Derived.Test.YtmecjaojkegamaaGreatDoorRr
import Derived.Test.YtmecjaojkegamaaGreatDoorDyM
import Derived.Test.YtmecjaojkegamaaGreatDoorWk
import Derived.Test.YtmecjaojkegamaaGreatDoorLw0
import Derived.Test.YtmecjaojkegamaaGreatDoorRow2
set_option linter.unusedVariables false
set_option linter.unusedSimpArgs false
set_option linter.unnecessarySimpa false
set_option linter.unusedSectionVars false
set_option maxRecDepth 100000
set_option maxHeartbeats 400000
set_option exponentiation.threshold 140000
namespace Go.Eng
open Go

theorem rounds02 {s : Bool} {l : List Int} {e m : Int} (hl : Ld l) (kl : l.length ≤ 1048576) : T_girderlaw02_DyadRounds s l e m = some true := by
  have lent : T_girderkit_LentDyad s l e = some (s, l, e) := by
    unfold T_girderkit_LentDyad T_girderkit_LentLimbs
    rw [cond_t (by rw [decide_eq_true_eq]; omega)]; rfl
  have kept : T_girderkit_KeptDyad s l e s l e = some true := by
    unfold T_girderkit_KeptDyad T_girderkit_KeptLimbs
    rw [dyad_same (by omega), Option.bind_some, cond_t (by simp), cond_t (by rw [decide_eq_true_eq]; omega)]; rfl
  have hr := rround_e (s := s) (e := e) (m := m) hl (by omega)
  have ex : ∃ x : Nat, ∃ f : Int, T_dyad_Round s l e m = some (x, f) := by
    obtain ⟨b, hb, hbg⟩ := dright_t (s := s) (e := e) hl (by omega)
    cases b with
    | false => exact ⟨nf 0, 2, by unfold T_dyad_Round; rw [hb]; rfl⟩
    | true => exact ⟨_, _, round_e (hbg.1 rfl)⟩
  obtain ⟨x, f, hx⟩ := ex
  unfold T_girderlaw02_DyadRounds
  rw [awake02, Option.bind_some, Bool.not_true, cF, lent, Option.bind_some]
  dsimp only
  rw [hx, Option.bind_some]
  dsimp only
  rw [hr, hx, Option.bind_some]
  dsimp only
  rw [kept, Option.bind_some, cT, cond_t (by simp)]
  unfold T_girderkit_SameFloat
  simp
section
variable {N : Nums} {P : Program} (H : AllOk N P)
include H
theorem rounds02_f {b0 : Bool} {e0 n : Int} {sa : Option Addr} {na ma : Nat} {la : List Int} {w : World} (hA : rdA (la.map (Value.int .u64)) sa na ma w)
    (ka : na ≤ 1048576) (wa : ∀ y ∈ la, (Lit.int .u64 y).wf = true) (hG : tab64 N.g_1 w) :
    CallsX P N.f_girderlaw02_DyadRounds #[.agg #[.bool b0, .slice sa na ma, .int .i64 e0], .int .i8 n] w fun v w' => v = .bool true ∧ ∃ M, St w w' M := by
  have ld : ∀ {l : List Int}, (∀ y ∈ l, (Lit.int .u64 y).wf = true) → Ld l := fun h y hy => by
    have := h y hy
    simp [Lit.wf, IntKind.min, IntKind.max, IntKind.signed, IntKind.bits] at this
    omega
  have len : la.length ≤ 1048576 := by
    have := hA.1
    simp at this
    omega
  have hS := ((Ho.start w).arg own_nil hG).arg (own_cons rfl own_nil) hA
  exact wk_girderlaw02_DyadRounds H hS (Ent.rd mp0) (Ent.rd mp1) (rounds02 (ld wa) len) fun w1 h => ⟨rfl, h.some_old⟩
end
end Go.Eng
