/-
  DyadReckons, the plain law: of every two dyads sum, difference, product, order, opposite and sign are what the document says. Its condition: limbs that are limbs, and not too many of them (the statement's own).
-/
import Derived.Test.YtmecjaojkegamaaGreatDoorRt
import Derived.Test.YtmecjaojkegamaaGreatDoorNr4
import Derived.Test.YtmecjaojkegamaaGreatDoorDyP
import Derived.Test.YtmecjaojkegamaaGreatDoorDy5
import Derived.Test.YtmecjaojkegamaaGreatDoorWk
import Derived.Test.YtmecjaojkegamaaGreatDoorLw0
import Derived.Test.YtmecjaojkegamaaGreatDoorRow2
set_option linter.unusedVariables false
set_option linter.unusedSimpArgs false
set_option linter.unnecessarySimpa false
set_option linter.unusedSectionVars false
set_option maxRecDepth 100000
set_option maxHeartbeats 400000
set_option exponentiation.threshold 140000
namespace Go.Eng
open Go

theorem nv_nD (s : Bool) (l : List Int) (e : Int) : nv (-65536) s (lv l) e = nD s l e := by
  unfold nv nD zD
  rw [show e - -65536 = e + 65536 by omega]
theorem cano_nv {K g : Int} {u : Bool} {p : Nat} (h : K ≤ g) : cano (zD u (LW p)) g = cano (nv K u p g) K := by
  rw [← cano_shift (zD u (LW p)) g (g - K).toNat]
  unfold nv zD
  rw [lv_LW]
  congr 1; omega
theorem Gd.bl {s : Bool} {l : List Int} {e : Int} (h : Gd s l e) : blN (lv l) ≤ 16384 := blN_le.2 h.ld.2.2.2.2
theorem canoLen' (z e : Int) : (cano z e).2.1.length ≤ 1048576 := Nat.le_trans canoLen (by decide)

def okD (o : Option DyR) : Prop := ∃ s l e c, o = some (s, l, e, c) ∧ l.length ≤ 1048576
theorem okD_cano (z e : Int) : okD (some (cano z e)) := ⟨_, _, _, _, rfl, canoLen' z e⟩
theorem okD_err (c : Int) : okD (some (false, [], 0, c)) := ⟨_, _, _, _, rfl, by simp⟩

theorem far_e {s t : Bool} {l m : List Int} {e f : Int} (h1 : -65536 ≤ e) (h2 : e ≤ 65536) (h3 : -65536 ≤ f) (h4 : f ≤ 65536) : T_girderref02_far s l e t m f = some (decide (l ≠ [] ∧ m ≠ [] ∧ (e - f > 16385 ∨ f - e > 16385))) := by
  unfold T_girderref02_far
  simp only [Option.bind_some]
  by_cases c1 : l = []
  · have : decide (l ≠ [] ∧ m ≠ [] ∧ (e - f > 16385 ∨ f - e > 16385)) = false := decide_eq_false (fun k => k.1 c1)
    rw [this, c1]; rfl
  · have n1 : (((l.length : Nat) : Int) == 0) = false := by
      have : l.length ≠ 0 := fun k => c1 (List.eq_nil_of_length_eq_zero k)
      rw [beq_eq_false_iff_ne]; omega
    rw [n1, Bool.not_false, cT]
    by_cases c2 : m = []
    · have : decide (l ≠ [] ∧ m ≠ [] ∧ (e - f > 16385 ∨ f - e > 16385)) = false := decide_eq_false (fun k => k.2.1 c2)
      rw [this, c2]; rfl
    · have n2 : (((m.length : Nat) : Int) == 0) = false := by
        have : m.length ≠ 0 := fun k => c2 (List.eq_nil_of_length_eq_zero k)
        rw [beq_eq_false_iff_ne]; omega
      rw [n2, cF, wrI (by omega) (by omega), wrI (n := f - e) (by omega) (by omega)]
      by_cases c3 : e - f > 16385
      · have : decide (l ≠ [] ∧ m ≠ [] ∧ (e - f > 16385 ∨ f - e > 16385)) = true := decide_eq_true ⟨c1, c2, .inl c3⟩
        rw [this, cond_f (by simpa using c3)]
      · rw [cond_t (by simpa using c3)]
        exact congrArg some (decide_eq_decide.2 ⟨fun k => ⟨c1, c2, .inr k⟩, fun k => k.2.2.resolve_left c3⟩)

theorem add_e {s t : Bool} {l m : List Int} {e f : Int} (hl : Ld l) (hm : Ld m) (kl : l.length ≤ 1048576) (km : m.length ≤ 1048576) : T_girderref02_Add s l e t m f = T_dyad_Add s l e t m f ∧ okD (T_dyad_Add s l e t m f) := by
  obtain ⟨a, ha, hag⟩ := dright_t (s := s) (e := e) hl (by omega)
  obtain ⟨b, hb, hbg⟩ := dright_t (s := t) (e := f) hm (by omega)
  have bad : a = false ∨ b = false → T_girderref02_Add s l e t m f = some (false, [], 0, 2) ∧ T_dyad_Add s l e t m f = some (false, [], 0, 2) := fun h => by
    unfold T_girderref02_Add T_dyad_Add T_dyad_both
    rw [right_e s e hl, right_e t f hm, ha, hb]
    cases a with
    | false => exact ⟨rfl, rfl⟩
    | true =>
      rcases h with h | h
      · cases h
      · subst h; exact ⟨rfl, rfl⟩
  cases a with
  | false =>
    obtain ⟨h1, h2⟩ := bad (.inl rfl)
    rw [h1, h2]; exact ⟨rfl, okD_err 2⟩
  | true =>
    cases b with
    | false =>
      obtain ⟨h1, h2⟩ := bad (.inr rfl)
      rw [h1, h2]; exact ⟨rfl, okD_err 2⟩
    | true =>
      have g1 := hag.1 rfl
      have g2 := hbg.1 rfl
      have d1 := g1.ld
      have d2 := g2.ld
      rw [dadd_t g1 g2]
      refine ⟨?_, okD_cano _ _⟩
      unfold T_girderref02_Add
      rw [right_e s e hl, right_e t f hm, ha, hb]
      have far := far_e (s := s) (t := t) (l := l) (m := m) (e := e) (f := f) (by omega) (by omega) (by omega) (by omega)
      rw [show ((some true).bind fun t2 => cond (!(!t2)) ((some true).bind fun t3 => some (!t3)) (some true)) = some false from rfl, Option.bind_some, cF, far, Option.bind_some]
      by_cases c : l ≠ [] ∧ m ≠ [] ∧ (e - f > 16385 ∨ f - e > 16385)
      · rw [decide_eq_true c, cT]
        obtain ⟨c1, c2, c3⟩ := c
        have z1 : zD s l ≠ 0 := fun k => c1 (g1.z_zero.1 k)
        have z2 : zD t m ≠ 0 := fun k => c2 (g2.z_zero.1 k)
        have b1 : (zD s l).natAbs < 2 ^ 16384 := by rw [zD_abs]; exact d1.2.2.2.2
        have b2 : (zD t m).natAbs < 2 ^ 16384 := by rw [zD_abs]; exact d2.2.2.2.2
        rcases c3 with c3 | c3
        · have := dadd_core b2 b1 (g2.odd z2) z1 (show f ≤ e by omega) (by omega) (by omega)
          rw [wrI (n := e - f) (by omega) (by omega), decide_eq_true c3, cT] at this
          have e1 : nD s l e + nD t m f = zD t m * ((2 ^ (f + 65536).toNat : Nat) : Int) + zD s l * ((2 ^ (e + 65536).toNat : Nat) : Int) := by unfold nD; rw [Int.add_comm]
          rw [e1]; exact this
        · have := dadd_core b1 b2 (g1.odd z1) z2 (show e ≤ f by omega) (by omega) (by omega)
          rw [wrI (n := f - e) (by omega) (by omega), decide_eq_true c3, cT] at this
          exact this
      · rw [decide_eq_false c, cF, refDyad_t hl (by omega), Option.bind_some]
        dsimp only
        rw [refDyad_t hm (by omega), Option.bind_some]
        dsimp only
        have q1 := g1.bl
        have q2 := g2.bl
        obtain ⟨u, p, g, p1, p2, p3, p4⟩ := plus_e (s := s) (t := t) (n := lv l) (k := lv m) (e := e) (f := f) (by omega) (by omega) (by omega) (by omega) (by omega) (by omega)
        have p5 := p4 (-65536) (by omega) (by omega)
        rw [nv_nD, nv_nD] at p5
        have hpl : (LW p).length ≤ 1073741824 := by
          have a1 := nv_abs (-65536) s (lv l) e
          have a2 := nv_abs (-65536) t (lv m) f
          have a3 := nv_abs (-65536) u p g
          rw [nv_nD] at a1 a2
          have s1 : blN (nD s l e).natAbs ≤ 200000 := by rw [a1]; exact blN_mul_le q1 (by omega)
          have s2 : blN (nD t m f).natAbs ≤ 200000 := by rw [a2]; exact blN_mul_le q2 (by omega)
          have s3 := sum_bl p5 s1 s2
          rw [a3] at s3
          have s4 := Nat.le_trans (blN_mono (Nat.le_mul_of_pos_right p (Nat.two_pow_pos (g - -65536).toNat))) s3
          have := LWl s4
          omega
        rw [p1, Option.bind_some]
        dsimp only
        rw [refTold_t (LW_ld p) hpl, cano_nv (K := -65536) (by omega), p5]; rfl

theorem neg_e {s : Bool} {l : List Int} {e : Int} (hl : Ld l) (kl : l.length ≤ 1048576) : T_girderref02_Neg s l e = T_dyad_Neg s l e ∧ ((T_dyad_Neg s l e = some (false, [], 0, 2)) ∨ ∃ s', T_dyad_Neg s l e = some (s', l, e, 0)) := by
  obtain ⟨a, ha, hag⟩ := dright_t (s := s) (e := e) hl (by omega)
  cases a with
  | false =>
    have h1 : T_dyad_Neg s l e = some (false, [], 0, 2) := by unfold T_dyad_Neg; rw [ha]; rfl
    have h2 : T_girderref02_Neg s l e = some (false, [], 0, 2) := by unfold T_girderref02_Neg; rw [right_e s e hl, ha]; rfl
    rw [h1, h2]; exact ⟨rfl, .inl rfl⟩
  | true =>
    have g1 := hag.1 rfl
    obtain ⟨s', h1, h2, h3⟩ := neg_gd g1
    have hLl := LW_len (lv_lt hl)
    rw [h1]
    refine ⟨?_, .inr ⟨s', rfl⟩⟩
    have hz : zD s' l = - zD s l := by
      unfold nD at h3
      rw [← Int.neg_mul] at h3
      exact pow_cancel h3
    have hz2 : zD (!s) (LW (lv l)) = zD s' l := by
      rw [hz, zD_LW]
      unfold zD sgN
      cases s <;> simp
    unfold T_girderref02_Neg
    rw [right_e s e hl, ha, Option.bind_some, Bool.not_true, cF, refDyad_t hl (by omega), Option.bind_some]
    dsimp only
    unfold T_girderref02_Minus
    rw [Option.bind_some]
    dsimp only
    rw [refTold_t (LW_ld _) (by omega), hz2, cano_gd h2]; rfl

theorem sub_e {s t : Bool} {l m : List Int} {e f : Int} (hl : Ld l) (hm : Ld m) (kl : l.length ≤ 1048576) (km : m.length ≤ 1048576) : T_girderref02_Sub s l e t m f = T_dyad_Sub s l e t m f ∧ okD (T_dyad_Sub s l e t m f) := by
  obtain ⟨h1, h2⟩ := neg_e (s := t) (e := f) hm km
  unfold T_girderref02_Sub T_dyad_Sub
  rw [h1]
  rcases h2 with h2 | ⟨s', h2⟩
  · rw [h2]; exact ⟨rfl, okD_err 2⟩
  · rw [h2, Option.bind_some, Option.bind_some]
    dsimp only
    obtain ⟨h3, h4⟩ := add_e (s := s) (e := e) (t := s') (f := f) hl hm kl km
    obtain ⟨a, b, c, d, h5, h6⟩ := h4
    rw [h3, h5]
    exact ⟨rfl, _, _, _, _, rfl, h6⟩

theorem mul_e {s t : Bool} {l m : List Int} {e f : Int} (hl : Ld l) (hm : Ld m) (kl : l.length ≤ 1048576) (km : m.length ≤ 1048576) : T_girderref02_Mul s l e t m f = T_dyad_Mul s l e t m f ∧ okD (T_dyad_Mul s l e t m f) := by
  obtain ⟨a, ha, hag⟩ := dright_t (s := s) (e := e) hl (by omega)
  obtain ⟨b, hb, hbg⟩ := dright_t (s := t) (e := f) hm (by omega)
  have bad : a = false ∨ b = false → T_girderref02_Mul s l e t m f = some (false, [], 0, 2) ∧ T_dyad_Mul s l e t m f = some (false, [], 0, 2) := fun h => by
    unfold T_girderref02_Mul T_dyad_Mul T_dyad_both
    rw [right_e s e hl, right_e t f hm, ha, hb]
    cases a with
    | false => exact ⟨rfl, rfl⟩
    | true =>
      rcases h with h | h
      · cases h
      · subst h; exact ⟨rfl, rfl⟩
  cases a with
  | false =>
    obtain ⟨h1, h2⟩ := bad (.inl rfl)
    rw [h1, h2]; exact ⟨rfl, okD_err 2⟩
  | true =>
    cases b with
    | false =>
      obtain ⟨h1, h2⟩ := bad (.inr rfl)
      rw [h1, h2]; exact ⟨rfl, okD_err 2⟩
    | true =>
      have g1 := hag.1 rfl
      have g2 := hbg.1 rfl
      have d1 := g1.ld
      have d2 := g2.ld
      have q1 := g1.bl
      have q2 := g2.bl
      rw [dmul_t g1 g2]
      refine ⟨?_, okD_cano _ _⟩
      unfold T_girderref02_Mul
      rw [right_e s e hl, right_e t f hm, ha, hb, show ((some true).bind fun t2 => cond (!(!t2)) ((some true).bind fun t3 => some (!t3)) (some true)) = some false from rfl, Option.bind_some, cF, refDyad_t hl (by omega), Option.bind_some]
      dsimp only
      rw [refDyad_t hm (by omega), Option.bind_some]
      dsimp only
      rw [times_e (by omega) (by omega) (by omega) (by omega) (by omega) (by omega), Option.bind_some]
      dsimp only
      have hpl : (LW (lv l * lv m)).length ≤ 1073741824 := by
        have h1 : lv l * lv m < 2 ^ (16384 + 16384) := by
          rw [Nat.pow_add]
          exact Nat.mul_lt_mul'' d1.2.2.2.2 d2.2.2.2.2
        have := LW_len' (j := 600) h1 (by omega)
        omega
      have hv : zD (!(s == t)) (LW (lv l * lv m)) = zD s l * zD t m := by
        unfold zD
        rw [lv_LW, times_sg]
      have e2 : cano (nD s l e * nD t m f) (-131072) = cano (zD s l * zD t m) (e + f) := by
        rw [← cano_shift (zD s l * zD t m) (e + f) (e + f + 131072).toNat]
        have q : nD s l e * nD t m f = zD s l * zD t m * ((2 ^ (e + f + 131072).toNat : Nat) : Int) := by
          unfold nD
          have : (e + f + 131072).toNat = (e + 65536).toNat + (f + 65536).toNat := by omega
          rw [this, Nat.pow_add, Int.natCast_mul]
          generalize ((2 ^ (e + 65536).toNat : Nat) : Int) = A
          generalize ((2 ^ (f + 65536).toNat : Nat) : Int) = B
          generalize zD s l = X
          generalize zD t m = Y
          ac_rfl
        rw [q]; congr 1; omega
      rw [refTold_t (LW_ld _) hpl, hv, e2]; rfl

theorem sgn_bad {s : Bool} {l : List Int} {e : Int} (h : T_dyad_Right s l e = some false) : T_dyad_Sign s l e = some (0, 2) := by unfold T_dyad_Sign; rw [h]; rfl

theorem cmp_e {s t : Bool} {l m : List Int} {e f : Int} (hl : Ld l) (hm : Ld m) (kl : l.length ≤ 1048576) (km : m.length ≤ 1048576) : ∃ c d, T_girderref02_Cmp s l e t m f = some (c, d) ∧ T_dyad_Cmp s l e t m f = some (c, d) := by
  obtain ⟨a, ha, hag⟩ := dright_t (s := s) (e := e) hl (by omega)
  obtain ⟨b, hb, hbg⟩ := dright_t (s := t) (e := f) hm (by omega)
  cases a with
  | false =>
    refine ⟨0, 2, ?_, ?_⟩
    · unfold T_girderref02_Cmp; rw [right_e s e hl, ha]; rfl
    · unfold T_dyad_Cmp
      rw [sgn_bad ha, Option.bind_some]
      dsimp only
      cases b with
      | false => rw [sgn_bad hb]; rfl
      | true => rw [sign_gd (hbg.1 rfl)]; rfl
  | true =>
    have g1 := hag.1 rfl
    cases b with
    | false =>
      refine ⟨0, 2, ?_, ?_⟩
      · unfold T_girderref02_Cmp; rw [right_e s e hl, right_e t f hm, ha, hb]; rfl
      · unfold T_dyad_Cmp
        rw [sign_gd g1, Option.bind_some]
        dsimp only
        rw [sgn_bad hb]; rfl
    | true =>
      have g2 := hbg.1 rfl
      have d1 := g1.ld
      have d2 := g2.ld
      have q1 := g1.bl
      have q2 := g2.bl
      refine ⟨_, _, ?_, cmp_gd g1 g2⟩
      unfold T_girderref02_Cmp
      rw [right_e s e hl, right_e t f hm, ha, hb, Option.bind_some, Bool.not_true, Bool.not_false, cT, Option.bind_some, Bool.not_true, cF, refDyad_t hl (by omega), Option.bind_some]
      dsimp only
      rw [refDyad_t hm (by omega), Option.bind_some]
      dsimp only
      rw [compare_e (K := -65536) (by omega) (by omega) (by omega) (by omega) (by omega) (by omega) (by omega) (by omega), nv_nD, nv_nD]; rfl

theorem sgn_e {s : Bool} {l : List Int} {e : Int} (hl : Ld l) (kl : l.length ≤ 1048576) : ∃ c d, T_girderref02_Sign s l e = some (c, d) ∧ T_dyad_Sign s l e = some (c, d) := by
  obtain ⟨a, ha, hag⟩ := dright_t (s := s) (e := e) hl (by omega)
  cases a with
  | false => exact ⟨0, 2, by unfold T_girderref02_Sign; rw [right_e s e hl, ha]; rfl, sgn_bad ha⟩
  | true =>
    have g1 := hag.1 rfl
    have q1 := g1.bl
    refine ⟨_, _, ?_, sign_gd g1⟩
    unfold T_girderref02_Sign
    rw [right_e s e hl, ha, Option.bind_some, Bool.not_true, cF, refDyad_t hl (by omega), Option.bind_some]
    dsimp only
    rw [nsign_e (by omega) (-65536), nv_nD]; rfl

theorem reckons02 {s t : Bool} {l m : List Int} {e f : Int} (hl : Ld l) (hm : Ld m) (kl : l.length ≤ 1048576) (km : m.length ≤ 1048576) : T_girderlaw02_DyadReckons s l e t m f = some true := by
  have lent : ∀ {s : Bool} {l : List Int} {e : Int}, l.length ≤ 1048576 → T_girderkit_LentDyad s l e = some (s, l, e) := fun {s l e} k => by
    unfold T_girderkit_LentDyad T_girderkit_LentLimbs
    rw [cond_t (by rw [decide_eq_true_eq]; omega)]; rfl
  have kept : ∀ {s : Bool} {l : List Int} {e : Int}, l.length ≤ 1048576 → T_girderkit_KeptDyad s l e s l e = some true := fun {s l e} k => by
    unfold T_girderkit_KeptDyad T_girderkit_KeptLimbs
    rw [dyad_same (by omega), Option.bind_some, cond_t (by simp), cond_t (by rw [decide_eq_true_eq]; omega)]; rfl
  have over : ∀ {l : List Int}, l.length ≤ 1048576 → ovr l = some () := fun {l} k => by unfold ovr; rw [if_pos (by omega)]
  have self : ∀ {s : Bool} {l : List Int} {e : Int}, l.length ≤ 1048576 → T_girderkit_SameDyad s l e s l e = some true := fun {s l e} k => by rw [dyad_same (by omega)]; simp
  obtain ⟨a1, a, al, ae, ac, a2, a3⟩ := add_e (s := s) (e := e) (t := t) (f := f) hl hm kl km
  obtain ⟨b1, b, bl, be, bc, b2, b3⟩ := sub_e (s := s) (e := e) (t := t) (f := f) hl hm kl km
  obtain ⟨c1, c, cl', ce, cc, c2, c3⟩ := mul_e (s := s) (e := e) (t := t) (f := f) hl hm kl km
  obtain ⟨d, dc, d1, d2⟩ := cmp_e (s := s) (e := e) (t := t) (f := f) hl hm kl km
  obtain ⟨n1, n2⟩ := neg_e (s := s) (e := e) hl kl
  obtain ⟨g, gc, g1, g2⟩ := sgn_e (s := s) (e := e) hl kl
  obtain ⟨n, nl, ne, nc, n3, n4⟩ : okD (T_dyad_Neg s l e) := by
    rcases n2 with n2 | ⟨s', n2⟩
    · rw [n2]; exact okD_err 2
    · rw [n2]; exact ⟨_, _, _, _, rfl, kl⟩
  rw [a2] at a1
  rw [b2] at b1
  rw [c2] at c1
  rw [n3] at n1
  unfold T_girderlaw02_DyadReckons
  rw [awake02, Option.bind_some, Bool.not_true, cF, lent kl, lent km]
  simp only [Option.bind_some, a1, a2, b1, b2, c1, c2, d1, d2, n1, n3, g1, g2, kept kl, kept km, over kl, over km, self a3, self b3, self c3, self n4, bne_self_eq_false, beq_self_eq_true, Bool.not_true, Bool.not_false, cT, cF]

section
variable {N : Nums} {P : Program} (H : AllOk N P)
include H
theorem reckons02_f {b0 b1 : Bool} {e0 e1 : Int} {sa sb : Option Addr} {na ma nb mb : Nat} {la lb : List Int} {w : World} (hA : rdA (la.map (Value.int .u64)) sa na ma w) (hB : rdA (lb.map (Value.int .u64)) sb nb mb w)
    (ka : na ≤ 1048576) (kb : nb ≤ 1048576) (wa : ∀ y ∈ la, (Lit.int .u64 y).wf = true) (wb : ∀ y ∈ lb, (Lit.int .u64 y).wf = true) (hG : tab64 N.g_1 w) :
    CallsX P N.f_girderlaw02_DyadReckons #[.agg #[.bool b0, .slice sa na ma, .int .i64 e0], .agg #[.bool b1, .slice sb nb mb, .int .i64 e1]] w fun v w' => v = .bool true ∧ ∃ M, St w w' M := by
  have ld : ∀ {l : List Int}, (∀ y ∈ l, (Lit.int .u64 y).wf = true) → Ld l := fun h y hy => by
    have := h y hy
    simp [Lit.wf, IntKind.min, IntKind.max, IntKind.signed, IntKind.bits] at this
    omega
  have len : ∀ {l : List Int} {a : Option Addr} {n c : Nat}, rdA (l.map (Value.int .u64)) a n c w → n ≤ 1048576 → l.length ≤ 1048576 := fun h k => by
    have := h.1
    simp at this
    omega
  have hS := (((Ho.start w).arg own_nil hG).arg (own_cons rfl own_nil) hB).arg (own_cons rfl (own_cons rfl own_nil)) hA
  exact wk_girderlaw02_DyadReckons H hS (Ent.rd mp0) (Ent.rd mp1) (Ent.rd mp2) (reckons02 (ld wa) (ld wb) (len hA ka) (len hB kb)) fun w1 h => ⟨rfl, h.some_old⟩
end
end Go.Eng
