/-
  DyadBetween, the plain law: which floats lie about a dyad. Its condition: limbs that are limbs, and not too many of them (the statement's own).
-/
import Derived.Test.YtmecjaojkegamaaDoorBt
import Derived.Test.YtmecjaojkegamaaDoorDy5
import Derived.Test.YtmecjaojkegamaaDoorDyN
import Derived.Test.YtmecjaojkegamaaDoorDyG
import Derived.Test.YtmecjaojkegamaaDoorWk
import Derived.Test.YtmecjaojkegamaaDoorLw0
import Derived.Test.YtmecjaojkegamaaDoorRow2
set_option linter.unusedVariables false
set_option linter.unusedSimpArgs false
set_option linter.unnecessarySimpa false
set_option linter.unusedSectionVars false
set_option maxRecDepth 100000
set_option maxHeartbeats 400000
set_option exponentiation.threshold 140000
namespace Go.Eng
open Go

theorem nD_one {s t : Bool} {l m : List Int} {e f : Int} (h : Gd s l e) (k : Gd t m f) (he : nD s l e = nD t m f) : s = t ∧ l = m ∧ e = f := by
  have a := nD_cano h
  have b := nD_cano k
  rw [he, b] at a
  simp only [Prod.mk.injEq] at a
  obtain ⟨a1, a2, a3, _⟩ := a
  exact ⟨a1.symm, a2.symm, a3.symm⟩

/-- The dyad of a finite float, by its number. -/
theorem of_num {x : Nat} (h : magF x < 9218868437227405312) : ∃ s l f, T_dyad_Of x = some (s, l, f, 0) ∧ Gd s l f ∧ nD s l f = sval x * ((2 ^ 64462 : Nat) : Int) := by
  have ho := of_e h
  have sh := cano_shift (sval x) (-1074) 64462
  rw [show (-1074 : Int) - ((64462 : Nat) : Int) = -65536 by omega] at sh
  by_cases h0 : magF x = 0
  · refine ⟨false, [], 0, ?_, .inl ⟨rfl, rfl, rfl⟩, ?_⟩
    · rw [ho, (sval_zero x).2 h0]; rfl
    · rw [(sval_zero x).2 h0, Int.zero_mul]
      unfold nD zD sgN lv; simp
  · refine ⟨_, _, _, of_own h h0, own_gd h h0, ?_⟩
    have e1 := of_own h h0
    rw [ho, ← sh] at e1
    injection e1 with e1
    have := (cano_num (k := 0) (by rw [show (-65536 : Int) - ((0 : Nat) : Int) = -65536 by omega]; exact e1)).2
    rw [Nat.pow_zero] at this
    simpa using this

theorem place_w (s : Bool) {r : Nat} (h : r ≤ 9218868437227405312) : T_bits_Place (Ieee.double.word s r) = some (if s then -(r : Int) else (r : Int), true) := by
  have hm := mag_word (s := s) h
  have hn := neg_word (s := s) h
  unfold T_bits_Place
  rw [feq_self, isNaN_mag, hm, decide_eq_false (by omega), Option.bind_some, Bool.not_false, Bool.not_true, cF, abs_e (by omega), Option.bind_some, hm, nf_zero, flt_zero, hm, hn, decide_eq_true h]
  have hm2 : magF r = r := Nat.mod_eq_of_lt (by omega)
  rw [bits_e (by omega), Option.bind_some, Option.bind_some, wrI (n := (r : Int)) (by omega) (by omega), wrI (n := 0 - (r : Int)) (by omega) (by omega)]
  by_cases h0 : r = 0
  · subst h0; cases s <;> rfl
  · rw [decide_eq_true (show r ≠ 0 from h0)]
    cases s
    · rfl
    · simp
theorem gap_w (s : Bool) {T : Nat} (h : T < 9218868437227405312) : T_bits_Between (Ieee.double.word s (if s then T + 1 else T)) (Ieee.double.word s (if s then T else T + 1)) = some (1, true) := by
  unfold T_bits_Between
  rw [place_w s (by split <;> omega), Option.bind_some]
  dsimp only
  rw [place_w s (by split <;> omega), Option.bind_some]
  dsimp only
  rw [Bool.not_true, Bool.not_false, cT, cT]
  cases s with
  | false =>
    simp only [Bool.false_eq_true, if_false]
    rw [cond_f (by rw [decide_eq_false_iff_not]; omega), w64n (n := T) (by omega), w64n (n := T + 1) (by omega), w64]
    congr 2; omega
  | true =>
    simp only [if_true]
    rw [cond_f (by rw [decide_eq_false_iff_not]; omega), w64 (-((T : Nat) : Int)), w64 (-((T + 1 : Nat) : Int)), w64]
    congr 2; omega

theorem fin_w (s : Bool) {r : Nat} (h : r ≤ 9218868437227405312) : T_girderkit_Finite (Ieee.double.word s r) = some (decide (r < 9218868437227405312)) := by
  unfold T_girderkit_Finite
  rw [Option.bind_some, nf_zero, finite_sub, mag_word h]; rfl
theorem sval_w (s : Bool) {r : Nat} (h : r ≤ 9218868437227405312) : sval (Ieee.double.word s r) = sgN s (vmag r) := by
  unfold sval sgN
  rw [mag_word h, neg_word h]

theorem word_inj {s : Bool} {a b : Nat} : Ieee.double.word s a = Ieee.double.word s b ↔ a = b := by
  unfold Ieee.Format.word
  cases s <;> simp

theorem sub_code (z : Int) : (∃ s l f, cano z (-65536) = (s, l, f, 0) ∧ Gd s l f ∧ nD s l f = z) ∨ ∃ s l f c, cano z (-65536) = (s, l, f, c) ∧ c ≠ 0 := by
  rcases cano_cases z (-65536) with ⟨s, l, f, h, _⟩ | ⟨s, l, f, h, hg⟩
  · exact .inr ⟨s, l, f, 3, h, by decide⟩
  · left
    refine ⟨s, l, f, h, hg, ?_⟩
    have := (cano_num (k := 0) (by rw [show (-65536 : Int) - ((0 : Nat) : Int) = -65536 by omega]; exact h)).2
    rw [Nat.pow_zero] at this
    simpa using this

theorem between02 {s0 : Bool} {l0 : List Int} {e0 : Int} (hl : Ld l0) (kl : l0.length ≤ 1048576) : T_girderlaw02_DyadBetween s0 l0 e0 = some true := by
  have copy : T_girderkit_CopyDyad s0 l0 e0 = some (s0, l0, e0) := copyD_t kl
  unfold T_girderlaw02_DyadBetween
  rw [awake02, Option.bind_some, Bool.not_true, cF, copy, Option.bind_some]
  dsimp only
  rw [norm_t hl kl, Option.bind_some]
  rcases cano_cases (zD s0 l0) e0 with ⟨s, l, e, h, _⟩ | ⟨s, l, e, h, hg⟩
  · rw [h]; rfl
  rw [h]
  clear h hl kl copy
  have hd := hg.ld
  dsimp only
  rw [cond_f (by simp), round_e hg, Option.bind_some]
  dsimp only
  rw [round_e hg, Option.bind_some]
  dsimp only
  rw [round_e hg, Option.bind_some]
  dsimp only
  rw [round_e hg, Option.bind_some]
  dsimp only
  have z0 : ((0 : Int) != 0) = false := rfl
  simp only [z0, Bool.not_false, cT, Option.bind_some, cF]
  by_cases hnil : l = []
  · subst hnil
    have e0 := hg.nil_e (by unfold zD sgN lv; cases s <;> rfl)
    have s0 : s = false := by
      rcases hg with ⟨_, h, _⟩ | ⟨m, h1, h2, _⟩
      · exact h
      · have := LW_nil.1 h2.symm; omega
    subst e0; subst s0
    have f1 : T_dyad_Fits false [] 0 = some true := by
      unfold T_dyad_Fits
      rw [right_of hg]; rfl
    have r0 : ∀ m, rF false (lv []) 0 m = 0 := fun m => rfl
    have ho : T_dyad_Of 0 = some nilD := by
      rw [of_e (by decide), (sval_zero 0).2 (by decide)]; rfl
    rw [f1, Option.bind_some, cT, r0, r0, r0, r0, ho]
    unfold nilD T_girderkit_SameFloat
    have hs : T_girderkit_SameDyad false [] 0 false [] 0 = some true := by rw [dyad_same (by simp)]; rfl
    simp only [Option.bind_some, beq_self_eq_true, cT, hs]
  · obtain ⟨odd, hlw, hne⟩ := hg.oddn hnil
    obtain ⟨b, f1, f2⟩ := fitsD_t hg hnil
    rw [f1, Option.bind_some]
    cases b with
    | true =>
      have ex := f2.1 rfl
      obtain ⟨r, a, b', c', d'⟩ := near_ex s ex
      have hmag : magF (Ieee.double.nearest s (lv l) e) = r := by rw [a, mag_word (by omega)]
      have hneg : negF (Ieee.double.nearest s (lv l) e) = s := by rw [a, neg_word (by omega)]
      obtain ⟨s1, l1, e1, o1, o2, o3⟩ := of_num (x := Ieee.double.nearest s (lv l) e) (by rw [hmag]; exact b')
      have hval : sval (Ieee.double.nearest s (lv l) e) * ((2 ^ 64462 : Nat) : Int) = nD s l e := by
        unfold sval nD zD sgN
        rw [hmag, hneg, d']
        have hlo := ex.lo
        have hp : 2 ^ (e + 1074).toNat * 2 ^ 64462 = 2 ^ (e + 65536).toNat := by rw [← Nat.pow_add]; congr 1; omega
        rw [← hp]
        generalize 2 ^ (e + 1074).toNat = A
        generalize 2 ^ 64462 = B
        cases s <;> simp [Int.natCast_mul, Int.neg_mul, Int.mul_assoc]
      obtain ⟨q1, q2, q3⟩ := nD_one o2 hg (by rw [o3, hval])
      subst q1; subst q2; subst q3
      have hs : T_girderkit_SameDyad s1 l1 e1 s1 l1 e1 = some true := by rw [dyad_same (by omega)]; simp
      rw [cT, rF_ex ex, rF_ex ex, rF_ex ex, rF_ex ex, o1]
      unfold T_girderkit_SameFloat
      simp only [Option.bind_some, beq_self_eq_true, cT, hs]
    | false =>
      have nex : ¬ Ex (lv l) e := fun g => by have := f2.2 g; cases this
      obtain ⟨T, up, t0, t3, t1, t2, t4, tv⟩ := between_e s odd nex (by omega)
      rw [cF, t3, t1, t2, t4, sign_gd hg, Option.bind_some]
      dsimp only
      have htw : (cond (decide (sgZ' (nD s l e) < 0)) (some (Ieee.double.word s (if s then T else T + 1))) (some (Ieee.double.word s (if s then T + 1 else T)))) = some (Ieee.double.word s T) := by
        rw [nD_sgn]
        unfold zD sgN sgZ'
        cases s with
        | false =>
          simp only [Bool.false_eq_true, if_false]
          rw [if_neg (by omega), if_neg (by omega)]; rfl
        | true =>
          simp only [if_true]
          rw [if_pos (by omega)]; rfl
      rw [htw, Option.bind_some, gap_w s t0, Option.bind_some]
      dsimp only
      have one : (cond (!(!true)) (cond (!((1 : Int) != 1)) ((T_girderkit_SameFloat (Ieee.double.word s T) (Ieee.double.word s T)).bind fun t33 => cond (!(!t33)) ((T_girderkit_SameFloat (Ieee.double.word s (if up then T + 1 else T)) (Ieee.double.word s (if s then T + 1 else T))).bind fun t34 => cond (!t34) ((T_girderkit_SameFloat (Ieee.double.word s (if up then T + 1 else T)) (Ieee.double.word s (if s then T else T + 1))).bind fun t35 => some (!t35)) (some false)) (some true)) (some true)) (some true)) = some false := by
        unfold T_girderkit_SameFloat
        cases up <;> cases s <;> simp
      rw [one, Option.bind_some, cF, fin_w s (by split <;> omega), fin_w s (by split <;> omega)]
      by_cases hfin : T + 1 < 9218868437227405312
      · have ff : ((some (decide ((if s then T + 1 else T) < 9218868437227405312))).bind fun t37 => cond (!(!t37)) ((some (decide ((if s then T else T + 1) < 9218868437227405312))).bind fun t38 => some (!t38)) (some true)) = some false := by
          rw [decide_eq_true (by split <;> omega), decide_eq_true (by split <;> omega)]; rfl
        rw [ff, Option.bind_some, cF]
        obtain ⟨P, r, c, hr0, hrc, hP, v1, v2, d1, d2⟩ := tv hfin
        obtain ⟨sl, ll, el, a1, a2, a3⟩ := of_num (x := Ieee.double.word s (if s then T + 1 else T)) (by rw [mag_word (by split <;> omega)]; split <;> omega)
        obtain ⟨sr, lr, er, b1, b2, b3⟩ := of_num (x := Ieee.double.word s (if s then T else T + 1)) (by rw [mag_word (by split <;> omega)]; split <;> omega)
        rw [sval_w s (by split <;> omega)] at a3 b3
        rw [a1, Option.bind_some]
        dsimp only
        rw [b1, Option.bind_some]
        dsimp only
        rw [cmp_gd a2 hg, Option.bind_some]
        dsimp only
        rw [cmp_gd hg b2, Option.bind_some]
        dsimp only
        rw [sub_gd hg a2, sub_gd b2 hg]
        -- the numbers
        have hX : nD s l e = sgN s (lv l * 2 ^ (e + 65536).toNat) := by
          unfold nD zD sgN
          cases s <;> simp [Int.natCast_mul, Int.neg_mul]
        rw [v1] at hX
        have hlow : nD sl ll el < nD s l e ∧ nD s l e < nD sr lr er ∧ ∃ w1 w2 : Int, w1 = nD s l e - nD sl ll el ∧ w2 = nD sr lr er - nD s l e ∧ (w1 < w2 → Ieee.double.word s (if up then T + 1 else T) = Ieee.double.word s (if s then T + 1 else T)) ∧ (w2 < w1 → Ieee.double.word s (if up then T + 1 else T) = Ieee.double.word s (if s then T else T + 1)) := by
          have hrP : 0 < r * P := Nat.mul_pos hr0 hP
          have hcP : r * P < c * P := Nat.mul_lt_mul_of_pos_right hrc hP
          have h2a : 2 * r < c ↔ 2 * (r * P) < c * P := by
            rw [← Nat.mul_assoc]
            exact (Nat.mul_lt_mul_right hP).symm
          have h2b : c < 2 * r ↔ c * P < 2 * (r * P) := by
            rw [← Nat.mul_assoc]
            exact (Nat.mul_lt_mul_right hP).symm
          rw [h2a] at d1
          rw [h2b] at d2
          rw [hX, a3, b3]
          clear hX a3 b3 v1 h2a h2b t1 t2 t3 t4 one ff htw a1 b1 a2 b2 f1 f2 hg hd tv
          have pw : ∀ v : Nat, sgN s v * ((2 ^ 64462 : Nat) : Int) = sgN s (v * 2 ^ 64462) := fun v => by
            unfold sgN
            cases s <;> simp [Int.natCast_mul, Int.neg_mul]
          rw [pw, pw]
          cases s with
          | false =>
            simp only [Bool.false_eq_true, if_false]
            rw [v2]
            generalize vmag T * 2 ^ 64462 = V
            generalize r * P = R at *
            generalize c * P = C at *
            unfold sgN
            simp only [Bool.false_eq_true, if_false]
            refine ⟨by omega, by omega, _, _, rfl, rfl, fun h => ?_, fun h => ?_⟩
            · rw [d1 (by omega)]; rfl
            · rw [d2 (by omega)]; rfl
          | true =>
            simp only [if_true]
            rw [v2]
            generalize vmag T * 2 ^ 64462 = V
            generalize r * P = R at *
            generalize c * P = C at *
            unfold sgN
            simp only [if_true]
            refine ⟨by omega, by omega, _, _, rfl, rfl, fun h => ?_, fun h => ?_⟩
            · rw [d2 (by omega)]; rfl
            · rw [d1 (by omega)]; rfl
        obtain ⟨lt1, lt2, w1, w2, e1, e2, k1, k2⟩ := hlow
        rw [← e1, ← e2]
        have hc1 : cmpZ (nD sl ll el) (nD s l e) = -1 := by unfold cmpZ; rw [if_pos lt1]
        have hc2 : cmpZ (nD s l e) (nD sr lr er) = -1 := by unfold cmpZ; rw [if_pos lt2]
        rw [hc1, hc2, show (cond (!((0 : Int) != 0)) (cond (!((0 : Int) != 0)) (cond (!decide ((-1 : Int) ≥ 0)) (some (decide ((-1 : Int) ≥ 0))) (some true)) (some true)) (some true)) = some false from rfl, Option.bind_some, cF]
        rcases sub_code w1 with ⟨x1, x2, x3, x4, x5, x6⟩ | ⟨x1, x2, x3, x4, x5, x6⟩
        · rw [x4, Option.bind_some]
          dsimp only
          rcases sub_code w2 with ⟨y1, y2, y3, y4, y5, y6⟩ | ⟨y1, y2, y3, y4, y5, y6⟩
          · rw [y4, Option.bind_some]
            dsimp only
            rw [z0, Bool.not_false, cT, cF, cmp_gd x5 y5, Option.bind_some, x6, y6]
            dsimp only
            rw [z0, cF]
            unfold T_girderkit_SameFloat cmpZ
            by_cases g1 : w1 < w2
            · rw [if_pos g1, k1 g1]; simp
            · by_cases g2 : w1 = w2
              · rw [if_neg g1, if_pos g2]; simp
              · rw [if_neg g1, if_neg g2, k2 (by omega)]; simp
          · rw [y5, Option.bind_some]
            dsimp only
            have : (y4 != 0) = true := by rw [bne_iff_ne]; exact y6
            rw [this]; rfl
        · rw [x5, Option.bind_some]
          dsimp only
          have : (x4 != 0) = true := by rw [bne_iff_ne]; exact x6
          obtain ⟨y1, y2, y3, y4⟩ := cano w2 (-65536)
          rw [this]; rfl
      · have ff : ((some (decide ((if s then T + 1 else T) < 9218868437227405312))).bind fun t37 => cond (!(!t37)) ((some (decide ((if s then T else T + 1) < 9218868437227405312))).bind fun t38 => some (!t38)) (some true)) = some true := by
          cases s with
          | false =>
            simp only [Bool.false_eq_true, if_false]
            rw [decide_eq_true t0, decide_eq_false hfin]; rfl
          | true =>
            simp only [if_true]
            rw [decide_eq_false hfin]; rfl
        rw [ff]; rfl

section
variable {N : Nums} {P : Program} (H : AllOk N P)
include H
theorem between02_f {b0 : Bool} {e0 : Int} {sa : Option Addr} {na ma : Nat} {la : List Int} {w : World} (hA : rdA (la.map (Value.int .u64)) sa na ma w)
    (ka : na ≤ 1048576) (wa : ∀ y ∈ la, (Lit.int .u64 y).wf = true) (hG : tab64 N.g_1 w) :
    CallsX P N.f_girderlaw02_DyadBetween #[.agg #[.bool b0, .slice sa na ma, .int .i64 e0]] w fun v w' => v = .bool true ∧ ∃ M, St w w' M := by
  have ld : ∀ {l : List Int}, (∀ y ∈ l, (Lit.int .u64 y).wf = true) → Ld l := fun h y hy => by
    have := h y hy
    simp [Lit.wf, IntKind.min, IntKind.max, IntKind.signed, IntKind.bits] at this
    omega
  have len : la.length ≤ 1048576 := by
    have := hA.1
    simp at this
    omega
  have hS := ((Ho.start w).arg own_nil hG).arg (own_cons rfl own_nil) hA
  exact wk_girderlaw02_DyadBetween H hS (Ent.rd mp0) (Ent.rd mp1) (between02 (ld wa) len) fun w1 h => ⟨rfl, h.some_old⟩
end
end Go.Eng
