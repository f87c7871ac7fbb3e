/-
  DyadNorms, the plain law: of any dyad, whether it is right, whether it fits, the right one of its value are what the document says. Its condition: limbs that are limbs, and not too many of them (the statement's own).
-/
import Derived.Test.YtmecjaojkegamaaGreatDoorRr
import Derived.Test.YtmecjaojkegamaaGreatDoorDyG
import Derived.Test.YtmecjaojkegamaaGreatDoorNr3
import Derived.Test.YtmecjaojkegamaaGreatDoorRp
import Derived.Test.YtmecjaojkegamaaGreatDoorOs
import Derived.Test.YtmecjaojkegamaaGreatDoorDyM
import Derived.Test.YtmecjaojkegamaaGreatDoorWk
import Derived.Test.YtmecjaojkegamaaGreatDoorLw0
import Derived.Test.YtmecjaojkegamaaGreatDoorRow2
set_option linter.unusedVariables false
set_option linter.unusedSimpArgs false
set_option linter.unnecessarySimpa false
set_option linter.unusedSectionVars false
set_option maxRecDepth 100000
set_option maxHeartbeats 400000
set_option exponentiation.threshold 140000
namespace Go.Eng
open Go

theorem near_lt (s : Bool) (m : Nat) (p : Int) : Ieee.double.nearest s m p < 18446744073709551616 := by
  obtain ⟨r, h1, h2, _⟩ := nearest_form s m p
  rw [h1]; exact word_bound _ _ (by omega)
theorem fits_e {s : Bool} {l : List Int} {e : Int} (hl : Ld l) (kl : l.length ≤ 1048576) : ∃ b, T_dyad_Fits s l e = some b ∧ T_girderref02_Fits s l e = some b := by
  obtain ⟨b, hb, hbg⟩ := dright_t (s := s) (e := e) hl (by omega)
  have hLl := LW_len (lv_lt hl)
  cases b with
  | false =>
    refine ⟨false, ?_, ?_⟩
    · unfold T_dyad_Fits; rw [hb]; rfl
    · unfold T_girderref02_Fits; rw [right_e s e hl, hb]; rfl
  | true =>
    have hg := hbg.1 rfl
    have hd := hg.ld
    unfold T_girderref02_Fits
    rw [right_e s e hl, hb, Option.bind_some, Bool.not_true, cF, refDyad_t hl (by omega), Option.bind_some]
    dsimp only
    rw [rounded_e (LW_ld _) (by omega) (by omega) (by omega), lv_LW, Option.bind_some]
    by_cases h0 : l = []
    · subst h0
      have e0 := hg.nil_e (by unfold zD sgN lv; cases s <;> rfl)
      subst e0
      refine ⟨true, ?_, ?_⟩
      · unfold T_dyad_Fits; rw [hb]; rfl
      · have e1 : rF s (lv []) 0 0 = 0 := rfl
        have e2 : T_girderref02_Of 0 = some nilD := by
          rw [rof_e (by omega), of_e (by decide)]
          have : sval 0 = 0 := (sval_zero 0).2 (by decide)
          rw [this]; rfl
        rw [e1, e2]
        unfold nilD
        rw [Option.bind_some]
        dsimp only
        rw [cond_t (by rfl), Option.bind_some, refDyad_t (fun y hy => by cases hy) (by simp), Option.bind_some]
        dsimp only
        have ez : lv [] = 0 := rfl
        rw [ez, compare_e (K := 0) (by decide) (by decide) (by omega) (by omega) (by omega) (by omega) (by omega) (by omega), nv_zero, nv_zero]; rfl
    · obtain ⟨odd, hlw, hne⟩ := hg.oddn h0
      obtain ⟨b, h1, h2⟩ := fitsD_t hg h0
      refine ⟨b, h1, ?_⟩
      have hbn : blN (lv l) ≤ 16384 := blN_le.2 hd.2.2.2.2
      have hxl : rF s (lv l) e 0 < 18446744073709551616 := by
        unfold rF fltV hugeV
        rw [if_neg hne]
        split
        · split <;> cases s <;> decide +kernel
        · exact near_lt _ _ _
      rw [rof_e hxl]
      by_cases hf : magF (rF s (lv l) e 0) < 9218868437227405312
      · by_cases hz : magF (rF s (lv l) e 0) = 0
        · have e2 : T_dyad_Of (rF s (lv l) e 0) = some nilD := by
            rw [of_e hf, (sval_zero _).2 hz]; rfl
          have nex : ¬ Ex (lv l) e := fun g => by
            rw [rF_ex g] at hz
            obtain ⟨r, a, b', c', d'⟩ := near_ex s g
            rw [a, mag_word (by omega)] at hz
            exact c' hz
          have hbf : b = false := by
            cases b
            · rfl
            · exact absurd (h2.1 rfl) nex
          subst hbf
          rw [e2]
          unfold nilD
          rw [Option.bind_some]
          dsimp only
          rw [cond_t (by rfl), Option.bind_some, refDyad_t (fun y hy => by cases hy) (by simp), Option.bind_some]
          dsimp only
          have ez : lv [] = 0 := rfl
          rw [ez, compare_e (K := -65536) (by omega) (by decide) (by omega) (by omega) (by omega) (by omega) (by omega) (by omega), nv_zero, Option.bind_some]
          have ha := nv_abs (-65536) s (lv l) e
          have hp : 0 < lv l * 2 ^ (e - -65536).toNat := Nat.mul_pos (by omega) (Nat.two_pow_pos _)
          generalize nv (-65536) s (lv l) e = X at *
          unfold cmpZ
          by_cases g : X < 0
          · rw [if_pos g]; rfl
          · rw [if_neg g, if_neg (by omega)]; rfl
        · obtain ⟨ex, oddx, hn, hv⟩ := own_ex hz hf
          rw [of_own hf hz, Option.bind_some]
          dsimp only
          have hlx : lv [(oF (magF (rF s (lv l) e 0)) : Int)] = oF (magF (rF s (lv l) e 0)) := by simp [lv]
          have hgx := own_gd hf hz
          have hdx := hgx.ld
          rw [cond_t (by rfl), Option.bind_some, refDyad_t hdx.1 (by simp), Option.bind_some, hlx]
          dsimp only
          have hlo := ex.lo
          have hhi := ex.hi
          have b53 : blN (oF (magF (rF s (lv l) e 0))) ≤ 53 := blN_le.2 ex.lt
          rw [compare_e (K := -65536) (by omega) (by omega) (by omega) (by omega) (by omega) (by omega) (by omega) (by omega), Option.bind_some]
          have ha := nv_abs (-65536) s (lv l) e
          have hb' := nv_abs (-65536) (negF (rF s (lv l) e 0)) (oF (magF (rF s (lv l) e 0))) (oP (magF (rF s (lv l) e 0)))
          congr 1
          rw [Bool.eq_iff_iff, beq_iff_eq, h2]
          have hc0 : ∀ X Y : Int, cmpZ X Y = 0 ↔ X = Y := fun X Y => by
            unfold cmpZ
            by_cases g : X < Y
            · rw [if_pos g]; omega
            · by_cases g2 : X = Y
              · rw [if_neg g, if_pos g2]; simp [g2]
              · rw [if_neg g, if_neg g2]; omega
          rw [hc0]
          constructor
          · intro heq
            rw [heq, hb'] at ha
            obtain ⟨q1, q2⟩ := odd_same oddx odd ha
            have : oP (magF (rF s (lv l) e 0)) = e := by omega
            have ex2 := ex
            rw [q1, this] at ex2
            exact ex2
          · intro g
            have hx := rF_ex (s := s) (m := 0) g
            rw [hx] at hv oddx ⊢
            obtain ⟨r, a, b', c', d'⟩ := near_ex s g
            have mr : magF (Ieee.double.nearest s (lv l) e) = r := by rw [a, mag_word (by omega)]
            have ng : negF (Ieee.double.nearest s (lv l) e) = s := by rw [a, neg_word (by omega)]
            rw [mr] at hv oddx ⊢
            rw [hx, mr] at hlo
            have glo := g.lo
            rw [d'] at hv
            obtain ⟨q1, q2⟩ := odd_same odd oddx hv
            have : oP r = e := by omega
            rw [ng, ← q1, this]
      · have nex : ¬ Ex (lv l) e := fun g => by
          rw [rF_ex g] at hf
          exact hf (mag_near g)
        have hbf : b = false := by
          cases b
          · rfl
          · exact absurd (h2.1 rfl) nex
        subst hbf
        rw [of_bad hf]; rfl

theorem norm_of {s : Bool} {l : List Int} {e : Int} (h : Ld l) (hk : l.length ≤ 536870000) : T_dyad_Norm s l e = some (cano (zD s l) e) ∧ T_girderref02_Norm s l e = some (cano (zD s l) e) := by
  refine ⟨?_, refNorm_t h (by omega)⟩
  unfold T_dyad_Norm
  rw [whole_t h hk, Option.bind_some, made_t (k := 64 * l.length) (by rw [← zD, zD_abs]; exact lv_lt h) (by omega)]; rfl

theorem norms02 {s : Bool} {l : List Int} {e : Int} (hl : Ld l) (kl : l.length ≤ 1048576) : T_girderlaw02_DyadNorms s l e = some true := by
  have lent : T_girderkit_LentDyad s l e = some (s, l, e) := by
    unfold T_girderkit_LentDyad T_girderkit_LentLimbs
    rw [cond_t (by rw [decide_eq_true_eq]; omega)]; rfl
  have kept : T_girderkit_KeptDyad s l e s l e = some true := by
    unfold T_girderkit_KeptDyad T_girderkit_KeptLimbs
    rw [dyad_same (by omega), Option.bind_some, cond_t (by simp), cond_t (by rw [decide_eq_true_eq]; omega)]; rfl
  have over : ovr l = some () := by unfold ovr; rw [if_pos (by omega)]
  obtain ⟨b, hb, _⟩ := dright_t (s := s) (e := e) hl (by omega)
  obtain ⟨c, f1, f2⟩ := fits_e (s := s) (e := e) hl kl
  obtain ⟨n1, n2⟩ := norm_of (s := s) (e := e) hl (by omega)
  unfold T_girderlaw02_DyadNorms
  rw [awake02, Option.bind_some, Bool.not_true, cF, lent, Option.bind_some]
  dsimp only
  rw [hb, Option.bind_some, f1, Option.bind_some, n1, Option.bind_some, kept, Option.bind_some, over, Option.bind_some, n2, Option.bind_some, cT, right_e s e hl, hb, Option.bind_some, cond_t (by simp), f2, Option.bind_some, cond_t (by simp), cond_t (by simp), cano_same]; rfl
section
variable {N : Nums} {P : Program} (H : AllOk N P)
include H
theorem norms02_f {b0 : Bool} {e0 : Int} {sa : Option Addr} {na ma : Nat} {la : List Int} {w : World} (hA : rdA (la.map (Value.int .u64)) sa na ma w)
    (ka : na ≤ 1048576) (wa : ∀ y ∈ la, (Lit.int .u64 y).wf = true) (hG : tab64 N.g_1 w) :
    CallsX P N.f_girderlaw02_DyadNorms #[.agg #[.bool b0, .slice sa na ma, .int .i64 e0]] w fun v w' => v = .bool true ∧ ∃ M, St w w' M := by
  have ld : ∀ {l : List Int}, (∀ y ∈ l, (Lit.int .u64 y).wf = true) → Ld l := fun h y hy => by
    have := h y hy
    simp [Lit.wf, IntKind.min, IntKind.max, IntKind.signed, IntKind.bits] at this
    omega
  have len : la.length ≤ 1048576 := by
    have := hA.1
    simp at this
    omega
  have hS := ((Ho.start w).arg own_nil hG).arg (own_cons rfl own_nil) hA
  exact wk_girderlaw02_DyadNorms H hS (Ent.rd mp0) (Ent.rd mp1) (norms02 (ld wa) len) fun w1 h => ⟨rfl, h.some_old⟩
end
end Go.Eng
