/-
  DyadBegins, the plain law: every float's dyad and every whole number's is what the document says. Its condition: a word that is a word, a number of 64 bits (the statement's own).
-/
import Derived.Test.YtmecjaojkegamaaDoorOs
import Derived.Test.YtmecjaojkegamaaDoorDyM
import Derived.Test.YtmecjaojkegamaaDoorWk
import Derived.Test.YtmecjaojkegamaaDoorLw0
import Derived.Test.YtmecjaojkegamaaDoorRow2
set_option linter.unusedVariables false
set_option linter.unusedSimpArgs false
set_option linter.unnecessarySimpa false
set_option linter.unusedSectionVars false
set_option maxRecDepth 100000
set_option maxHeartbeats 400000
set_option exponentiation.threshold 140000
namespace Go.Eng
open Go

theorem natOfN_t {x : Nat} (h : x < 18446744073709551616) : T_girderref02_NatOf (x : Int) = some (LW x) := by
  unfold T_girderref02_NatOf
  have e : lv [(x : Int)] = x := by simp [lv]
  rw [Option.bind_some, natTrim_t (fun y hy => by rw [List.mem_singleton.1 hy]; omega) (by simp), e]; rfl
theorem dint_e {n : Int} (h1 : -9223372036854775808 ≤ n) (h2 : n < 9223372036854775808) : T_dyad_Int n = some ((cano n 0).1, (cano n 0).2.1, (cano n 0).2.2.1) := by
  have e : T_bignum_NewInt n = some n := by
    unfold T_bignum_NewInt bigSetInt64
    rw [if_pos ⟨h1, h2⟩]; rfl
  unfold T_dyad_Int
  rw [e, Option.bind_some, made_t (k := 64) (by have : (2 : Nat) ^ 64 = 18446744073709551616 := by decide
                                                omega) (by omega)]; rfl
theorem rint_e {n : Int} (h1 : -9223372036854775808 ≤ n) (h2 : n < 9223372036854775808) : T_girderref02_Int n = some ((cano n 0).1, (cano n 0).2.1, (cano n 0).2.2.1) := by
  have hm : (cond (decide (n < 0)) (some (IntKind.u64.wrap (0 - (IntKind.u64.wrap n)))) (some (IntKind.u64.wrap n))) = some ((n.natAbs : Nat) : Int) := by
    by_cases c : n < 0
    · rw [decide_eq_true c, cT, w64, w64]
      congr 1; omega
    · rw [decide_eq_false c, cF, w64]
      congr 1; omega
  have hz : zD (decide (n < 0)) (LW n.natAbs) = n := by
    unfold zD sgN
    rw [lv_LW]
    by_cases c : n < 0
    · rw [decide_eq_true c, if_pos rfl]; omega
    · rw [decide_eq_false c, if_neg (by simp)]; omega
  have hl : (LW n.natAbs).length ≤ 1 := LW_len (by have : (2 : Nat) ^ (64 * 1) = 18446744073709551616 := by decide
                                                   omega)
  unfold T_girderref02_Int T_girderref02_Whole
  rw [hm, Option.bind_some, natOfN_t (by omega), Option.bind_some, Option.bind_some]
  dsimp only
  rw [refTold_t (LW_ld _) (by omega), hz]; rfl

theorem begins02 {x : Nat} {n : Int} (hx : x < 18446744073709551616) (h1 : -9223372036854775808 ≤ n) (h2 : n < 9223372036854775808) : T_girderlaw02_DyadBegins x n = some true := by
  have ex : ∃ s l e f, T_dyad_Of x = some (s, l, e, f) ∧ l.length ≤ 256 := by
    by_cases h : magF x < 9218868437227405312
    · exact ⟨_, _, _, _, of_e h, canoLen⟩
    · exact ⟨_, _, _, _, of_bad h, by simp⟩
  obtain ⟨s, l, e, f, ho, hl⟩ := ex
  unfold T_girderlaw02_DyadBegins
  rw [awake02, Option.bind_some, Bool.not_true, cF, rof_e hx, ho, Option.bind_some]
  dsimp only
  rw [Option.bind_some]
  dsimp only
  rw [cond_t (by simp), dyad_same (by omega), Option.bind_some, cond_t (by simp), dint_e h1 h2, Option.bind_some, rint_e h1 h2, Option.bind_some]
  dsimp only
  rw [cano_same]; rfl
section
variable {N : Nums} {P : Program} (H : AllOk N P)
include H
theorem begins02_f {x0 : Nat} {n : Int} {w : World} (wx : (Lit.float .f64 x0).wf = true) (hn : -9223372036854775808 ≤ n ∧ n < 9223372036854775808) (hG : tab64 N.g_1 w) :
    CallsX P N.f_girderlaw02_DyadBegins #[.float .f64 x0, .int .i64 n] w fun v w' => v = .bool true ∧ ∃ M, St w w' M := by
  have hx : nf x0 < 18446744073709551616 := nf_words (l := [x0]) (fun p hp => by
    rw [List.mem_singleton.1 hp]
    simpa [Lit.wf] using wx) _ (List.mem_map.2 ⟨x0, by simp, rfl⟩)
  exact wk_girderlaw02_DyadBegins H ((Ho.start w).arg own_nil hG) (Ent.rd mp0) (begins02 hx hn.1 hn.2) fun w1 h => ⟨rfl, h.some_old⟩
end
end Go.Eng
