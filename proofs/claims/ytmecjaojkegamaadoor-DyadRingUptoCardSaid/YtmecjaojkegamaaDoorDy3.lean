/-
  The law DyadRing. No condition.
-/
import Derived.Test.YtmecjaojkegamaaDoorDy2
import Derived.Test.YtmecjaojkegamaaDoorWk
import Derived.Test.YtmecjaojkegamaaDoorLw0
set_option linter.unusedVariables false
set_option linter.unusedSimpArgs false
set_option linter.unnecessarySimpa false
set_option linter.unusedSectionVars false
set_option maxRecDepth 100000
set_option maxHeartbeats 400000
set_option exponentiation.threshold 140000
namespace Go.Eng
open Go

theorem limbs_same {l m : List Int} (hl : l.length ≤ 4294967296) : T_girderkit_SameLimbs l m = some (l == m) := by
  unfold T_girderkit_SameLimbs
  simp only [Option.bind_some]
  refine eq_cond (fun h => ?_) (fun h => ?_)
  · have : l ≠ m := fun e => by subst e; simp at h
    simp [this]
  · have hlen : l.length = m.length := by simp at h; omega
    have step : ∀ i, i < l.length → l.getD i 0 = m.getD i 0 → T_girderkit_SameLimbs_b2 l m ((i : Nat) : Int) = some (.inl ((i + 1 : Nat) : Int)) := by
      intro i hi he
      unfold T_girderkit_SameLimbs_b2
      simp only [Option.bind_some, at_getD 0 hi, at_getD 0 (show i < m.length by omega), he, bne_self_eq_false, cF]
      rw [cond_t (by simp; omega), wrU (by omega)]
    by_cases he : l = m
    · subst he
      have := iter_nat (b := T_girderkit_SameLimbs_b2 l l) (fun i => ((i : Nat) : Int)) (o := .inl ()) l.length (by rw [FU_eq]; omega) (fun i hi => step i hi rfl) (by
        unfold T_girderkit_SameLimbs_b2
        simp only [Option.bind_some]
        rw [cond_f (by simp)])
      rw [show ((0 : Nat) : Int) = 0 from rfl] at this
      rw [this]; simp
    · obtain ⟨i, hi, hne, hbef⟩ := first_diff 0 hlen he
      have := iter_nat (b := T_girderkit_SameLimbs_b2 l m) (fun i => ((i : Nat) : Int)) (o := .inr false) i (by rw [FU_eq]; omega) (fun j hj => step j (by omega) (hbef j hj)) (by
        unfold T_girderkit_SameLimbs_b2
        simp only [Option.bind_some, at_getD 0 hi, at_getD 0 (show i < m.length by omega)]
        rw [cond_t (by simp; omega), cond_t (by simpa using hne)])
      rw [show ((0 : Nat) : Int) = 0 from rfl] at this
      rw [this]; simp [he]
theorem dyad_same {s t : Bool} {l m : List Int} {e f : Int} (hl : l.length ≤ 4294967296) : T_girderkit_SameDyad s l e t m f = some (s == t && l == m && e == f) := by
  unfold T_girderkit_SameDyad
  rw [limbs_same hl]
  cases s == t <;> cases l == m <;> rfl
theorem same_self {s : Bool} {l : List Int} {e c : Int} (hl : l.length ≤ 4294967296) : T_girderlaw02_same s l e c s l e c = some true := by
  unfold T_girderlaw02_same
  rw [dyad_same hl]; simp

theorem neg_gd {s : Bool} {l : List Int} {e : Int} (h : Gd s l e) : ∃ s', T_dyad_Neg s l e = some (s', l, e, 0) ∧ Gd s' l e ∧ nD s' l e = - nD s l e := by
  have hl := h.ld
  unfold T_dyad_Neg
  rw [right_of h, Option.bind_some, Bool.not_true, cF, app_le (by simp; omega)]
  have num : ∀ a b : Bool, zD a l = - zD b l → nD a l e = - nD b l e := fun a b h => by unfold nD; rw [h, Int.neg_mul]
  cases s with
  | false =>
    rw [Bool.not_false, cT, Option.bind_some, Option.bind_some]
    rcases h with ⟨rfl, _, rfl⟩ | ⟨m, h1, h2, h3, h4, h5⟩
    · exact ⟨false, rfl, .inl ⟨rfl, rfl, rfl⟩, num _ _ rfl⟩
    · have : decide (((l.length : Nat) : Int) > 0) = true := by
        have : l ≠ [] := fun c => by rw [c] at h2; have := LW_nil.1 h2.symm; omega
        have := List.length_pos_iff.2 this
        simp; omega
      refine ⟨true, by rw [this]; rfl, .inr ⟨m, h1, h2, h3, h4, h5⟩, num _ _ rfl⟩
  | true =>
    rw [Bool.not_true, cF, Option.bind_some]
    rcases h with ⟨_, h, _⟩ | ⟨m, h1, h2, h3, h4, h5⟩
    · cases h
    · refine ⟨false, rfl, .inr ⟨m, h1, h2, h3, h4, h5⟩, num _ _ ?_⟩
      unfold zD sgN
      simp
theorem sub_gd {s t : Bool} {l m : List Int} {e f : Int} (h : Gd s l e) (k : Gd t m f) : T_dyad_Sub s l e t m f = some (cano (nD s l e - nD t m f) (-65536)) := by
  obtain ⟨t', n1, n2, n3⟩ := neg_gd k
  unfold T_dyad_Sub
  rw [n1, Option.bind_some]
  dsimp only
  rw [cond_f (by decide), dadd_t h n2, Option.bind_some, n3, Int.sub_eq_add_neg]

theorem norm_t {s : Bool} {l : List Int} {e : Int} (hl : Ld l) (hn : l.length ≤ 1048576) : T_dyad_Norm s l e = some (cano (zD s l) e) := by
  unfold T_dyad_Norm
  rw [whole_t hl (by omega), Option.bind_some]
  have hz : (zD s l).natAbs < 2 ^ (64 * l.length) := by rw [zD_abs]; exact lv_lt hl
  rw [show sgN s (lv l) = zD s l from rfl, made_t hz (by omega), Option.bind_some]
theorem copyD_t {s : Bool} {l : List Int} {e : Int} (hn : l.length ≤ 1048576) : T_girderkit_CopyDyad s l e = some (s, l, e) := by
  unfold T_girderkit_CopyDyad T_girderkit_CopyLimbs
  rw [app_le (by simp; omega)]; rfl

theorem made3_t {s t u : Bool} {l m n : List Int} {e f g : Int} (hl : Ld l) (hm : Ld m) (hn : Ld n) (kl : l.length ≤ 1048576) (km : m.length ≤ 1048576) (kn : n.length ≤ 1048576) :
    T_girderlaw02_made s l e t m f u n g = some ((cano (zD s l) e).1, (cano (zD s l) e).2.1, (cano (zD s l) e).2.2.1, (cano (zD t m) f).1, (cano (zD t m) f).2.1, (cano (zD t m) f).2.2.1, (cano (zD u n) g).1, (cano (zD u n) g).2.1, (cano (zD u n) g).2.2.1,
      ((cano (zD s l) e).2.2.2 == 0 && (cano (zD t m) f).2.2.2 == 0 && (cano (zD u n) g).2.2.2 == 0)) := by
  unfold T_girderlaw02_made
  rw [copyD_t kl, Option.bind_some]
  dsimp only
  rw [norm_t hl kl, Option.bind_some]
  generalize cano (zD s l) e = A
  obtain ⟨a1, a2, a3, a4⟩ := A
  dsimp only
  rw [copyD_t km, Option.bind_some]
  dsimp only
  rw [norm_t hm km, Option.bind_some]
  generalize cano (zD t m) f = B
  obtain ⟨b1, b2, b3, b4⟩ := B
  dsimp only
  rw [copyD_t kn, Option.bind_some]
  dsimp only
  rw [norm_t hn kn, Option.bind_some]
  generalize cano (zD u n) g = C
  obtain ⟨c1, c2, c3, c4⟩ := C
  dsimp only
  cases a4 == 0 <;> cases b4 == 0 <;> cases c4 == 0 <;> rfl

theorem cano_cases (z e : Int) : (∃ s l f, cano z e = (s, l, f, 3) ∧ l.length ≤ 4294967296) ∨ ∃ s l f, cano z e = (s, l, f, 0) ∧ Gd s l f := by
  rcases cano_out z e with h | ⟨s, l, f, h1, h2, _⟩
  · exact .inl ⟨false, [], 0, h, by simp⟩
  · exact .inr ⟨s, l, f, h1, h2⟩
theorem cano_len (z e : Int) : (cano z e).2.1.length ≤ 4294967296 := by
  rcases cano_cases z e with ⟨s, l, f, h, hl⟩ | ⟨s, l, f, h, hg⟩
  · rw [h]; exact hl
  · rw [h]; have := hg.ld.2.1; show l.length ≤ _; omega
theorem cano_code (z e : Int) : (cano z e).2.2.2 = 3 ∨ (cano z e).2.2.2 = 0 := by
  rcases cano_cases z e with ⟨s, l, f, h, hl⟩ | ⟨s, l, f, h, hg⟩
  · left; rw [h]
  · right; rw [h]

theorem pow_cancel {a b : Int} {k : Nat} (h : a * ((2 ^ k : Nat) : Int) = b * ((2 ^ k : Nat) : Int)) : a = b := by
  have := Nat.two_pow_pos k
  exact Int.eq_of_mul_eq_mul_right (by omega) h

theorem ring02 {s t u : Bool} {l m n : List Int} {e f g : Int} (hl : Ld l) (hm : Ld m) (hn : Ld n) (kl : l.length ≤ 1048576) (km : m.length ≤ 1048576) (kn : n.length ≤ 1048576) : T_girderlaw02_DyadRing s l e t m f u n g = some true := by
  unfold T_girderlaw02_DyadRing
  rw [awake02, Option.bind_some, Bool.not_true, cF, made3_t hl hm hn kl km kn, Option.bind_some]
  rcases cano_cases (zD s l) e with ⟨s1, l1, e1, h1, _⟩ | ⟨s1, l1, e1, h1, g1⟩
  · rw [h1]; rfl
  rcases cano_cases (zD t m) f with ⟨s2, l2, e2, h2, _⟩ | ⟨s2, l2, e2, h2, g2⟩
  · rw [h1, h2]; rfl
  rcases cano_cases (zD u n) g with ⟨s3, l3, e3, h3, _⟩ | ⟨s3, l3, e3, h3, g3⟩
  · rw [h1, h2, h3]; rfl
  rw [h1, h2, h3]
  clear h1 h2 h3 hl hm hn
  dsimp only
  rw [cond_f (by decide), dadd_t g1 g2, Option.bind_some]
  have cP := nD_cano g1
  generalize hP : nD s1 l1 e1 = P at *
  generalize hQ : nD s2 l2 e2 = Q
  generalize hR : nD s3 l3 e3 = R
  have a21 : T_dyad_Add s2 l2 e2 s1 l1 e1 = some (cano (P + Q) (-65536)) := by rw [dadd_t g2 g1, hP, hQ, Int.add_comm]
  have m12 : T_dyad_Mul s1 l1 e1 s2 l2 e2 = some (cano (P * Q) (-131072)) := by rw [dmul_t g1 g2, hP, hQ]
  have m21 : T_dyad_Mul s2 l2 e2 s1 l1 e1 = some (cano (P * Q) (-131072)) := by rw [dmul_t g2 g1, hP, hQ, Int.mul_comm]
  have a23 : T_dyad_Add s2 l2 e2 s3 l3 e3 = some (cano (Q + R) (-65536)) := by rw [dadd_t g2 g3, hQ, hR]
  have m23 : T_dyad_Mul s2 l2 e2 s3 l3 e3 = some (cano (Q * R) (-131072)) := by rw [dmul_t g2 g3, hQ, hR]
  have m13 : T_dyad_Mul s1 l1 e1 s3 l3 e3 = some (cano (P * R) (-131072)) := by rw [dmul_t g1 g3, hP, hR]
  have lA := cano_len (P + Q) (-65536)
  have lM := cano_len (P * Q) (-131072)
  have kA := cano_code (P + Q) (-65536)
  have kM := cano_code (P * Q) (-131072)
  have nA : ∀ {s l f}, cano (P + Q) (-65536) = (s, l, f, 0) → Gd s l f ∧ nD s l f = P + Q := fun {s l f} h => by
    have := cano_num (k := 0) (z := P + Q) (s := s) (l := l) (f := f) h
    exact ⟨this.1, by have := this.2; rw [show ((2 ^ 0 : Nat) : Int) = 1 from rfl, Int.mul_one] at this; exact this⟩
  have nB : ∀ {s l f}, cano (Q + R) (-65536) = (s, l, f, 0) → Gd s l f ∧ nD s l f = Q + R := fun {s l f} h => by
    have := cano_num (k := 0) (z := Q + R) (s := s) (l := l) (f := f) h
    exact ⟨this.1, by have := this.2; rw [show ((2 ^ 0 : Nat) : Int) = 1 from rfl, Int.mul_one] at this; exact this⟩
  have nM : ∀ {z s l f}, cano z (-131072) = (s, l, f, 0) → Gd s l f ∧ nD s l f * ((2 ^ 65536 : Nat) : Int) = z := fun {z s l f} h => cano_num (k := 65536) (z := z) h
  have dist : ∀ z : Int, cano (z * ((2 ^ 65536 : Nat) : Int)) (-131072) = cano z (-65536) := fun z => by
    have := cano_shift z (-65536) 65536
    rw [show (-65536 : Int) - ((65536 : Nat) : Int) = -131072 by omega] at this
    exact this
  generalize hA : cano (P + Q) (-65536) = A at *
  generalize hM : cano (P * Q) (-131072) = M at *
  obtain ⟨as, al, ae, ac⟩ := A
  obtain ⟨ms, ml, me, mc⟩ := M
  dsimp only at lA lM kA kM ⊢
  rw [a21, Option.bind_some]
  dsimp only
  rw [m12, Option.bind_some]
  dsimp only
  rw [m21, Option.bind_some]
  dsimp only
  rw [same_self lA, Option.bind_some, same_self lM]
  have ca : (ac == 2) = false := by rcases kA with h | h <;> rw [h] <;> decide
  have cm : (mc == 2) = false := by rcases kM with h | h <;> rw [h] <;> decide
  simp only [Bool.not_true, Bool.not_false, cT, cF, Option.bind_some, ca, cm]
  -- a sum less a part
  have step1 : (cond (ac == 0) ((T_dyad_Sub as al ae s2 l2 e2).bind fun o => match o with
      | (t31, t32, t33, t34) => cond (!(t34 != 0)) ((T_girderkit_SameDyad t31 t32 t33 s1 l1 e1).bind fun t35 => cond (!t35) (some (.inr false)) (some (.inl ()))) (some (.inr false))) (some (.inl ())) : Option (Unit ⊕ Bool)) = some (.inl ()) := by
    refine eq_cond (fun h => ?_) (fun _ => rfl)
    have h0 : ac = 0 := by simpa using h
    subst h0
    obtain ⟨ga, na⟩ := nA rfl
    rw [sub_gd ga g2, na, hQ, show P + Q - Q = P by omega, cP, Option.bind_some]
    dsimp only
    rw [dyad_same (by have := g1.ld.2.1; omega)]
    simp
  rw [step1, Option.bind_some]
  dsimp only
  rw [a23, Option.bind_some]
  generalize hB : cano (Q + R) (-65536) = B at *
  obtain ⟨bs, bl, be, bc⟩ := B
  dsimp only
  have two : ∀ x y : Int, (cond (x == 0) (some (y == 0)) (some false)) = some (x == 0 && y == 0) := fun x y => by cases x == 0 <;> rfl
  rw [two, Option.bind_some]
  have step2 : (cond (ac == 0 && bc == 0) ((T_dyad_Add as al ae s3 l3 e3).bind fun o => match o with
      | (t41, t42, t43, t44) => (T_dyad_Add s1 l1 e1 bs bl be).bind fun o => match o with
        | (t45, t46, t47, t48) => (T_girderlaw02_same t41 t42 t43 t44 t45 t46 t47 t48).bind fun t49 => cond (!t49) (some (.inr false)) (some (.inl ()))) (some (.inl ())) : Option (Unit ⊕ Bool)) = some (.inl ()) := by
    refine eq_cond (fun h => ?_) (fun _ => rfl)
    rw [Bool.and_eq_true] at h
    have h0 : ac = 0 := by simpa using h.1
    have h1 : bc = 0 := by simpa using h.2
    subst h0; subst h1
    obtain ⟨ga, na⟩ := nA rfl
    obtain ⟨gb, nb⟩ := nB rfl
    rw [dadd_t ga g3, dadd_t g1 gb, na, nb, hP, hR, Int.add_assoc, Option.bind_some]
    have ln := cano_len (P + (Q + R)) (-65536)
    generalize cano (P + (Q + R)) (-65536) = X at *
    obtain ⟨x1, x2, x3, x4⟩ := X
    dsimp only
    rw [Option.bind_some]
    dsimp only
    rw [same_self ln]; rfl
  rw [step2, Option.bind_some]
  dsimp only
  rw [m23, Option.bind_some]
  have nN := @nM (Q * R)
  generalize hN : cano (Q * R) (-131072) = N' at *
  obtain ⟨ns, nl, ne, nc⟩ := N'
  dsimp only
  rw [two, Option.bind_some]
  have step3 : (cond (mc == 0 && nc == 0) ((T_dyad_Mul ms ml me s3 l3 e3).bind fun o => match o with
      | (t55, t56, t57, t58) => (T_dyad_Mul s1 l1 e1 ns nl ne).bind fun o => match o with
        | (t59, t60, t61, t62) => (T_girderlaw02_same t55 t56 t57 t58 t59 t60 t61 t62).bind fun t63 => cond (!t63) (some (.inr false)) (some (.inl ()))) (some (.inl ())) : Option (Unit ⊕ Bool)) = some (.inl ()) := by
    refine eq_cond (fun h => ?_) (fun _ => rfl)
    rw [Bool.and_eq_true] at h
    have h0 : mc = 0 := by simpa using h.1
    have h1 : nc = 0 := by simpa using h.2
    subst h0; subst h1
    obtain ⟨gm, nm⟩ := nM hM
    obtain ⟨gn, nn⟩ := nN rfl
    have eq : nD ms ml me * R = P * nD ns nl ne := by
      refine pow_cancel (k := 65536) ?_
      generalize ((2 ^ 65536 : Nat) : Int) = K at *
      rw [show nD ms ml me * R * K = (nD ms ml me * K) * R by ac_rfl, nm, show P * nD ns nl ne * K = P * (nD ns nl ne * K) by ac_rfl, nn]
      ac_rfl
    rw [dmul_t gm g3, dmul_t g1 gn, hP, hR, eq, Option.bind_some]
    have ln := cano_len (P * nD ns nl ne) (-131072)
    generalize cano (P * nD ns nl ne) (-131072) = X at *
    obtain ⟨x1, x2, x3, x4⟩ := X
    dsimp only
    rw [Option.bind_some]
    dsimp only
    rw [same_self ln]; rfl
  rw [step3, Option.bind_some]
  dsimp only
  rw [m13, Option.bind_some]
  have nK := @nM (P * R)
  generalize hK : cano (P * R) (-131072) = K' at *
  obtain ⟨ks, kl', ke, kc⟩ := K'
  dsimp only
  have three : (cond (bc == 0) (cond (mc == 0) (some (kc == 0)) (some false)) (some false)) = some (bc == 0 && (mc == 0 && kc == 0)) := by cases bc == 0 <;> cases mc == 0 <;> rfl
  rw [three, Option.bind_some]
  have step4 : (cond (bc == 0 && (mc == 0 && kc == 0)) ((T_dyad_Mul s1 l1 e1 bs bl be).bind fun o => match o with
      | (t69, t70, t71, t72) => (T_dyad_Add ms ml me ks kl' ke).bind fun o => match o with
        | (t73, t74, t75, t76) => (T_girderlaw02_same t69 t70 t71 t72 t73 t74 t75 t76).bind fun t77 => cond (!t77) (some (.inr false)) (some (.inl ()))) (some (.inl ())) : Option (Unit ⊕ Bool)) = some (.inl ()) := by
    refine eq_cond (fun h => ?_) (fun _ => rfl)
    rw [Bool.and_eq_true, Bool.and_eq_true] at h
    have h0 : bc = 0 := by simpa using h.1
    have h1 : mc = 0 := by simpa using h.2.1
    have h2 : kc = 0 := by simpa using h.2.2
    subst h0; subst h1; subst h2
    obtain ⟨gb, nb⟩ := nB rfl
    obtain ⟨gm, nm⟩ := nM hM
    obtain ⟨gk, nk⟩ := nK rfl
    have eq : P * (Q + R) = (nD ms ml me + nD ks kl' ke) * ((2 ^ 65536 : Nat) : Int) := by
      rw [Int.add_mul, nm, nk, Int.mul_add]
    rw [dmul_t g1 gb, dadd_t gm gk, hP, nb, eq, dist, Option.bind_some]
    have ln := cano_len (nD ms ml me + nD ks kl' ke) (-65536)
    generalize cano (nD ms ml me + nD ks kl' ke) (-65536) = X at *
    obtain ⟨x1, x2, x3, x4⟩ := X
    dsimp only
    rw [Option.bind_some]
    dsimp only
    rw [same_self ln]; rfl
  rw [step4, Option.bind_some]

section
variable {N : Nums} {P : Program} (H : AllOk N P)
include H
theorem ring02_f {b0 b1 b2 : Bool} {e0 e1 e2 : Int} {sa sb sc : Option Addr} {na ma nb mb nc mc : Nat} {la lb lc : List Int} {w : World} (hA : rdA (la.map (Value.int .u64)) sa na ma w) (hB : rdA (lb.map (Value.int .u64)) sb nb mb w) (hC : rdA (lc.map (Value.int .u64)) sc nc mc w)
    (ka : na ≤ 1048576) (kb : nb ≤ 1048576) (kc : nc ≤ 1048576) (wa : ∀ y ∈ la, (Lit.int .u64 y).wf = true) (wb : ∀ y ∈ lb, (Lit.int .u64 y).wf = true) (wc : ∀ y ∈ lc, (Lit.int .u64 y).wf = true) (hG : tab64 N.g_1 w) :
    CallsX P N.f_girderlaw02_DyadRing #[.agg #[.bool b0, .slice sa na ma, .int .i64 e0], .agg #[.bool b1, .slice sb nb mb, .int .i64 e1], .agg #[.bool b2, .slice sc nc mc, .int .i64 e2]] w fun v w' => v = .bool true ∧ ∃ M, St w w' M := by
  have ld : ∀ {l : List Int}, (∀ y ∈ l, (Lit.int .u64 y).wf = true) → Ld l := fun h y hy => by
    have := h y hy
    simp [Lit.wf, IntKind.min, IntKind.max, IntKind.signed, IntKind.bits] at this
    omega
  have len : ∀ {l : List Int} {a : Option Addr} {n c : Nat}, rdA (l.map (Value.int .u64)) a n c w → n ≤ 1048576 → l.length ≤ 1048576 := fun h k => by
    have := h.1
    simp at this
    omega
  have hS := ((((Ho.start w).arg own_nil hG).arg (own_cons rfl own_nil) hC).arg (own_cons rfl (own_cons rfl own_nil)) hB).arg (own_cons rfl (own_cons rfl (own_cons rfl own_nil))) hA
  exact wk_girderlaw02_DyadRing H hS (Ent.rd mp0) (Ent.rd mp1) (Ent.rd mp2) (Ent.rd mp3) (ring02 (ld wa) (ld wb) (ld wc) (len hA ka) (len hB kb) (len hC kc)) fun w1 h => ⟨rfl, h.some_old⟩
end
end Go.Eng
