/-
  The law DyadOrders. No condition.
-/
import Derived.Test.YtmecjaojkegamaaDoorDyL
import Derived.Test.YtmecjaojkegamaaDoorWk
import Derived.Test.YtmecjaojkegamaaDoorLw0
import Derived.Test.YtmecjaojkegamaaDoorDy5
set_option linter.unusedVariables false
set_option linter.unusedSimpArgs false
set_option linter.unnecessarySimpa false
set_option linter.unusedSectionVars false
set_option maxRecDepth 100000
set_option maxHeartbeats 400000
set_option exponentiation.threshold 140000
namespace Go.Eng
open Go

theorem cmpZ_cases (a b : Int) : (a < b ∧ cmpZ a b = -1 ∧ cmpZ b a = 1) ∨ (a = b ∧ cmpZ a b = 0 ∧ cmpZ b a = 0) ∨ (b < a ∧ cmpZ a b = 1 ∧ cmpZ b a = -1) := by
  unfold cmpZ
  rcases Int.lt_trichotomy a b with h | h | h
  · exact .inl ⟨h, by rw [if_pos h], by rw [if_neg (by omega), if_neg (by omega)]⟩
  · exact .inr (.inl ⟨h, by rw [if_neg (by omega), if_pos h], by rw [if_neg (by omega), if_pos h.symm]⟩)
  · exact .inr (.inr ⟨h, by rw [if_neg (by omega), if_neg (by omega)], by rw [if_pos h]⟩)
theorem sgZ_mul (a b : Int) : sgZ' (a * b) = sgZ' a * sgZ' b := by
  rcases sgZ_cases a with ⟨h, e⟩ | ⟨h, e⟩ | ⟨h, e⟩ <;> rcases sgZ_cases b with ⟨k, f⟩ | ⟨k, f⟩ | ⟨k, f⟩ <;> rw [e, f]
  · have := Int.mul_pos_of_neg_of_neg h k; unfold sgZ'; rw [if_neg (by omega), if_neg (by omega)]; rfl
  · rw [k, Int.mul_zero]; rfl
  · have := Int.mul_neg_of_neg_of_pos h k; unfold sgZ'; rw [if_pos this]; rfl
  · rw [h, Int.zero_mul]; rfl
  · rw [h, Int.zero_mul]; rfl
  · rw [h, Int.zero_mul]; rfl
  · have := Int.mul_neg_of_pos_of_neg h k; unfold sgZ'; rw [if_pos this]; rfl
  · rw [k, Int.mul_zero]; rfl
  · have := Int.mul_pos h k; unfold sgZ'; rw [if_neg (by omega), if_neg (by omega)]; rfl

theorem orders02 {s t u : Bool} {l m n : List Int} {e f g : Int} (hl : Ld l) (hm : Ld m) (hn : Ld n) (kl : l.length ≤ 1048576) (km : m.length ≤ 1048576) (kn : n.length ≤ 1048576) : T_girderlaw02_DyadOrders s l e t m f u n g = some true := by
  unfold T_girderlaw02_DyadOrders
  rw [awake02, Option.bind_some, Bool.not_true, cF, made3_t hl hm hn kl km kn, Option.bind_some]
  rcases cano_cases (zD s l) e with ⟨s1, l1, e1, h1, _⟩ | ⟨s1, l1, e1, h1, g1⟩
  · rw [h1]; rfl
  rcases cano_cases (zD t m) f with ⟨s2, l2, e2, h2, _⟩ | ⟨s2, l2, e2, h2, g2⟩
  · rw [h1, h2]; rfl
  rcases cano_cases (zD u n) g with ⟨s3, l3, e3, h3, _⟩ | ⟨s3, l3, e3, h3, g3⟩
  · rw [h1, h2, h3]; rfl
  rw [h1, h2, h3]
  clear h1 h2 h3 hl hm hn
  dsimp only
  have cP := nD_cano g1
  have cQ := nD_cano g2
  have nA : ∀ {z : Int} {s l f}, cano z (-65536) = (s, l, f, 0) → Gd s l f ∧ nD s l f = z := fun {z s l f} h => by
    have := cano_num (k := 0) (z := z) (s := s) (l := l) (f := f) h
    exact ⟨this.1, by have := this.2; rw [show ((2 ^ 0 : Nat) : Int) = 1 from rfl, Int.mul_one] at this; exact this⟩
  have nM : ∀ {z s l f}, cano z (-131072) = (s, l, f, 0) → Gd s l f ∧ nD s l f * ((2 ^ 65536 : Nat) : Int) = z := fun {z s l f} h => cano_num (k := 65536) (z := z) h
  have sm : T_girderkit_SameDyad s1 l1 e1 s2 l2 e2 = some (decide (nD s1 l1 e1 = nD s2 l2 e2)) := by
    rw [dyad_same (by have := g1.ld.2.1; omega)]
    congr 1
    by_cases c : nD s1 l1 e1 = nD s2 l2 e2
    · rw [decide_eq_true c]
      rw [c, cQ] at cP
      simp only [Prod.mk.injEq] at cP
      obtain ⟨rfl, rfl, rfl, _⟩ := cP
      simp
    · rw [decide_eq_false c]
      cases h : (s1 == s2 && l1 == l2 && e1 == e2) with
      | false => rfl
      | true =>
        exfalso
        simp only [Bool.and_eq_true, beq_iff_eq] at h
        obtain ⟨⟨rfl, rfl⟩, rfl⟩ := h
        exact c rfl
  have k12 := cmp_gd g1 g2
  have k21 := cmp_gd g2 g1
  have k23 := cmp_gd g2 g3
  have k13 := cmp_gd g1 g3
  have d12 := sub_gd g1 g2
  have a13 := dadd_t g1 g3
  have a23 := dadd_t g2 g3
  have m13 := dmul_t g1 g3
  have m23 := dmul_t g2 g3
  have sg3 := sign_gd g3
  generalize nD s1 l1 e1 = P at *
  generalize nD s2 l2 e2 = Q at *
  generalize nD s3 l3 e3 = R at *
  rw [cond_f (by decide), k12, Option.bind_some]
  dsimp only
  rw [k21, Option.bind_some]
  dsimp only
  rw [k23, Option.bind_some]
  dsimp only
  rw [k13, Option.bind_some, sm]
  dsimp only
  have t20 : (cond (!((0 : Int) != 0)) (cond (!((0 : Int) != 0)) (cond (!((0 : Int) != 0)) (cond (!((0 : Int) != 0)) (cond (!(cmpZ P Q != (IntKind.i64.wrap (0 - cmpZ Q P)))) (cond (!(decide (cmpZ P Q < (-1)))) (cond (!(decide (cmpZ P Q > 1)))
      ((some (decide (P = Q))).bind fun t21 => some (!((cmpZ P Q == 0) == t21))) (some true)) (some true)) (some true)) (some true)) (some true)) (some true)) (some true)) = some false := by
    rcases cmpZ_cases P Q with ⟨a, b, c⟩ | ⟨a, b, c⟩ | ⟨a, b, c⟩ <;> rw [b, c]
    · rw [decide_eq_false (show ¬ P = Q by omega)]; rfl
    · rw [decide_eq_true a]; rfl
    · rw [decide_eq_false (show ¬ P = Q by omega)]; rfl
  rw [t20, Option.bind_some, cF]
  have t22 : (cond (decide (cmpZ P Q ≤ 0)) (cond (decide (cmpZ Q R ≤ 0)) (cond (!(decide (cmpZ P R > 0))) (cond (decide (cmpZ P Q < 0)) (cond (decide (cmpZ Q R ≤ 0)) (some (decide (cmpZ P R ≥ 0))) (some false)) (some false)) (some true))
      (cond (decide (cmpZ P Q < 0)) (cond (decide (cmpZ Q R ≤ 0)) (some (decide (cmpZ P R ≥ 0))) (some false)) (some false)))
      (cond (decide (cmpZ P Q < 0)) (cond (decide (cmpZ Q R ≤ 0)) (some (decide (cmpZ P R ≥ 0))) (some false)) (some false))) = some false := by
    rcases cmpZ_cases P Q with ⟨a, b, _⟩ | ⟨a, b, _⟩ | ⟨a, b, _⟩ <;> rcases cmpZ_cases Q R with ⟨c, d, _⟩ | ⟨c, d, _⟩ | ⟨c, d, _⟩ <;> rcases cmpZ_cases P R with ⟨x, y, _⟩ | ⟨x, y, _⟩ | ⟨x, y, _⟩ <;> rw [b, d, y] <;> first | rfl | omega
  rw [t22, Option.bind_some, cF, d12, Option.bind_some]
  have kA := cano_code (P - Q) (-65536)
  have nA1 := @nA (P - Q)
  generalize cano (P - Q) (-65536) = A at *
  obtain ⟨as, al, ae, ac⟩ := A
  dsimp only
  have step1 : (cond (ac == 0) ((T_dyad_Sign as al ae).bind fun o => match o with
      | (t27, t28) => cond (!(t28 != 0)) (cond (t27 != cmpZ P Q) (some (.inr false)) (some (.inl ()))) (some (.inr false))) (some (.inl ())) : Option (Unit ⊕ Bool)) = some (.inl ()) := by
    refine eq_cond (fun h => ?_) (fun _ => rfl)
    have h0 : ac = 0 := by simpa using h
    subst h0
    obtain ⟨ga, na⟩ := nA1 rfl
    rw [sign_gd ga, na, ← cmp_sgn, Option.bind_some]
    simp
  rw [step1, Option.bind_some]
  dsimp only
  rw [a13, Option.bind_some]
  have nA2 := @nA (P + R)
  generalize cano (P + R) (-65536) = B at *
  obtain ⟨bs, bl, be, bc⟩ := B
  dsimp only
  rw [a23, Option.bind_some]
  have nA3 := @nA (Q + R)
  generalize cano (Q + R) (-65536) = C at *
  obtain ⟨cs, cl, ce, cc⟩ := C
  dsimp only
  have two : ∀ x y : Int, (cond (x == 0) (some (y == 0)) (some false)) = some (x == 0 && y == 0) := fun x y => by cases x == 0 <;> rfl
  rw [two, Option.bind_some]
  have step2 : (cond (bc == 0 && cc == 0) ((T_dyad_Cmp bs bl be cs cl ce).bind fun o => match o with
      | (t38, t39) => cond (!(t39 != 0)) (cond (t38 != cmpZ P Q) (some (.inr false)) (some (.inl ()))) (some (.inr false))) (some (.inl ())) : Option (Unit ⊕ Bool)) = some (.inl ()) := by
    refine eq_cond (fun h => ?_) (fun _ => rfl)
    rw [Bool.and_eq_true] at h
    have h0 : bc = 0 := by simpa using h.1
    have h1 : cc = 0 := by simpa using h.2
    subst h0; subst h1
    obtain ⟨gb, nb⟩ := nA2 rfl
    obtain ⟨gc, nc⟩ := nA3 rfl
    rw [cmp_gd gb gc, nb, nc, cmp_sgn, show P + R - (Q + R) = P - Q by omega, ← cmp_sgn, Option.bind_some]
    simp
  rw [step2, Option.bind_some]
  dsimp only
  rw [sg3, Option.bind_some]
  dsimp only
  rw [m13, Option.bind_some]
  have nM1 := @nM (P * R)
  generalize cano (P * R) (-131072) = D at *
  obtain ⟨ds, dl', de, dc⟩ := D
  dsimp only
  rw [m23, Option.bind_some]
  have nM2 := @nM (Q * R)
  generalize cano (Q * R) (-131072) = E at *
  obtain ⟨es, el, ee, ec⟩ := E
  dsimp only
  refine eq_cond (fun h => eq_cond (fun h' => ?_) (fun _ => rfl)) (fun _ => rfl)
  have h0 : dc = 0 := by simpa using h
  have h1 : ec = 0 := by simpa using h'
  subst h0; subst h1
  obtain ⟨gd, nd⟩ := nM1 rfl
  obtain ⟨ge, ne⟩ := nM2 rfl
  have key : cmpZ (nD ds dl' de) (nD es el ee) = cmpZ P Q * sgZ' R := by
    rw [← cmpZ_mul (k := 65536), nd, ne, cmp_sgn, cmp_sgn, ← Int.sub_mul, sgZ_mul]
  rw [cmp_gd gd ge, key, Option.bind_some]
  dsimp only
  rw [cond_t (by decide)]
  congr 1
  rcases cmpZ_cases P Q with ⟨_, b, _⟩ | ⟨_, b, _⟩ | ⟨_, b, _⟩ <;> rcases sgZ_cases R with ⟨_, d⟩ | ⟨_, d⟩ | ⟨_, d⟩ <;> rw [b, d] <;> rfl

section
variable {N : Nums} {P : Program} (H : AllOk N P)
include H
theorem orders02_f {b0 b1 b2 : Bool} {e0 e1 e2 : Int} {sa sb sc : Option Addr} {na ma nb mb nc mc : Nat} {la lb lc : List Int} {w : World} (hA : rdA (la.map (Value.int .u64)) sa na ma w) (hB : rdA (lb.map (Value.int .u64)) sb nb mb w) (hC : rdA (lc.map (Value.int .u64)) sc nc mc w)
    (ka : na ≤ 1048576) (kb : nb ≤ 1048576) (kc : nc ≤ 1048576) (wa : ∀ y ∈ la, (Lit.int .u64 y).wf = true) (wb : ∀ y ∈ lb, (Lit.int .u64 y).wf = true) (wc : ∀ y ∈ lc, (Lit.int .u64 y).wf = true) (hG : tab64 N.g_1 w) :
    CallsX P N.f_girderlaw02_DyadOrders #[.agg #[.bool b0, .slice sa na ma, .int .i64 e0], .agg #[.bool b1, .slice sb nb mb, .int .i64 e1], .agg #[.bool b2, .slice sc nc mc, .int .i64 e2]] w fun v w' => v = .bool true ∧ ∃ M, St w w' M := by
  have ld : ∀ {l : List Int}, (∀ y ∈ l, (Lit.int .u64 y).wf = true) → Ld l := fun h y hy => by
    have := h y hy
    simp [Lit.wf, IntKind.min, IntKind.max, IntKind.signed, IntKind.bits] at this
    omega
  have len : ∀ {l : List Int} {a : Option Addr} {n c : Nat}, rdA (l.map (Value.int .u64)) a n c w → n ≤ 1048576 → l.length ≤ 1048576 := fun h k => by
    have := h.1
    simp at this
    omega
  have hS := ((((Ho.start w).arg own_nil hG).arg (own_cons rfl own_nil) hC).arg (own_cons rfl (own_cons rfl own_nil)) hB).arg (own_cons rfl (own_cons rfl (own_cons rfl own_nil))) hA
  exact wk_girderlaw02_DyadOrders H hS (Ent.rd mp0) (Ent.rd mp1) (Ent.rd mp2) (Ent.rd mp3) (orders02 (ld wa) (ld wb) (ld wc) (len hA ka) (len hB kb) (len hC kc)) fun w1 h => ⟨rfl, h.some_old⟩
end
end Go.Eng
