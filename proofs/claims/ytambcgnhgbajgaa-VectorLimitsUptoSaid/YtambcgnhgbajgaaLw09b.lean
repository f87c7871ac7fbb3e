/-
  The law VectorLimits. No condition.
-/
import Derived.Test.YtambcgnhgbajgaaLw09
set_option linter.unusedVariables false
set_option linter.unusedSimpArgs false
set_option linter.unnecessarySimpa false
set_option maxRecDepth 1000000
set_option maxHeartbeats 4000000
namespace Go.Eng
open Go

def edgeB : Bool := (List.range 512).all fun n => match T_girderkit_Edge ((n : Nat) : Int) with | some v => decide (v < 18446744073709551616) | none => false
theorem edgeB_ok : edgeB = true := by decide +kernel
theorem edge_ok {n : Nat} (h : n < 512) : ∃ v, T_girderkit_Edge (n : Int) = some v ∧ v < 18446744073709551616 := by
  have := List.all_eq_true.1 edgeB_ok n (List.mem_range.2 h)
  revert this
  cases T_girderkit_Edge (n : Int) with
  | none => intro h; cases h
  | some v => intro h; exact ⟨v, rfl, of_decide_eq_true h⟩

theorem limits_step (i : Nat) (hi : i < 40) : T_girderlaw09_VectorLimits_b2 (i : Int) = some (.inl ((i + 1 : Nat) : Int)) := by
  unfold T_girderlaw09_VectorLimits_b2
  obtain ⟨x0, e0, h0⟩ := edge_ok (n := i) (by omega)
  obtain ⟨x1, e1, h1⟩ := edge_ok (n := i + 7) (by omega)
  obtain ⟨x2, e2, h2⟩ := edge_ok (n := 3 * i) (by omega)
  obtain ⟨x3, e3, h3⟩ := edge_ok (n := 5 * i) (by omega)
  obtain ⟨x4, e4, h4⟩ := edge_ok (n := i + 1) (by omega)
  obtain ⟨x5, e5, h5⟩ := edge_ok (n := 11 * i) (by omega)
  have w1 : IntKind.i64.wrap ((i : Int) + 7) = ((i + 7 : Nat) : Int) := by rw [wrI (by omega) (by omega)]; omega
  have w2 : IntKind.i64.wrap (3 * (i : Int)) = ((3 * i : Nat) : Int) := by rw [wrI (by omega) (by omega)]; omega
  have w3 : IntKind.i64.wrap (5 * (i : Int)) = ((5 * i : Nat) : Int) := by rw [wrI (by omega) (by omega)]; omega
  have w5 : IntKind.i64.wrap (11 * (i : Int)) = ((11 * i : Nat) : Int) := by rw [wrI (by omega) (by omega)]; omega
  dsimp only
  rw [cond_t (by simp; omega), e0, Option.bind_some, w1, e1, Option.bind_some, w2, e2, Option.bind_some, Option.bind_some, w3, e3, Option.bind_some, wrU (by omega), e4]
  simp only [Option.bind_some, w5, e5]
  rw [sums09 x5 (a := [x0, x1, x2]) (b := [x3, x4, x0]) (by simp) (by simp) (by
    intro p hp
    simp at hp
    rcases hp with rfl | rfl | rfl <;> assumption), tells09 (a := [x0, x1, x2]) (b := [x3, x4, x0]) (by simp) (by simp), tells09 (a := [x0, x1, x2]) (b := [x0, x1, x2]) (by simp) (by simp)]
  rfl

theorem dotN_zero {f g : Nat → Nat} (hf : ∀ i, f i = 0) (hg : ∀ i, g i = 0) : ∀ n, dotN f g n = 0
  | 0 => rfl
  | n + 1 => by
    show fadd (dotN f g n) (fmul (f n) (g n)) = 0
    rw [dotN_zero hf hg n, hf, hg]; decide +kernel

theorem limits_loop : iter T_girderlaw09_VectorLimits_b2 FU 0 = some (.inl ()) :=
  iter_nat (b := T_girderlaw09_VectorLimits_b2) (fun i => ((i : Nat) : Int)) (o := .inl ()) 40 (by rw [FU_eq]; omega) (fun i hi => limits_step i hi) (by
    unfold T_girderlaw09_VectorLimits_b2
    dsimp only
    rw [cond_f (by simp)])
theorem mk_4097 : mkL (nf 0) 4097 4097 = some (List.replicate 4097 0) := by
  rw [nf_zero]
  exact mk_nat (d := 0) (n := 4097) (by omega)
theorem mk_4096 : mkL (nf 0) 4096 4096 = some (List.replicate 4096 0) := by
  rw [nf_zero]
  exact mk_nat (d := 0) (n := 4096) (by omega)
theorem zero_4096 (i : Nat) : (List.replicate 4096 0).getD i 0 = 0 := by
  rw [List.getD_eq_getElem?_getD, List.getElem?_replicate]; split <;> rfl
theorem two_nans : ∃ n1 n2, T_math_NaN = some n1 ∧ T_math_Float64frombits 18444492273895866369 = some n2 ∧ (n1 == n2) = true ∧ (n1 == nf 0) = false ∧ (nf 0 == n2) = false := by
  obtain ⟨n1, e1⟩ : ∃ n, T_math_NaN = some n := by
    have : (T_math_NaN).isSome = true := by decide +kernel
    exact ⟨_, (Option.some_get this).symm⟩
  obtain ⟨n2, e2⟩ : ∃ n, T_math_Float64frombits 18444492273895866369 = some n := by
    have : (T_math_Float64frombits 18444492273895866369).isSome = true := by decide +kernel
    exact ⟨_, (Option.some_get this).symm⟩
  have fin : (T_math_NaN.bind fun t35 => (T_math_Float64frombits 18444492273895866369).bind fun t36 => some (t35 == t36 && !(t35 == nf 0) && !(nf 0 == t36))) = some true := by decide +kernel
  rw [e1, e2] at fin
  simp only [Option.bind_some, Option.some.injEq, Bool.and_eq_true, Bool.not_eq_true'] at fin
  exact ⟨n1, n2, e1, e2, fin.1.1, fin.1.2, fin.2⟩

theorem limits_of {a b : List Nat} (m1 : mkL (nf 0) 4097 4097 = some a) (m2 : mkL (nf 0) 4096 4096 = some b) (la : a.length = 4097) (lb : b.length = 4096) (zb : ∀ i, b.getD i 0 = 0) : T_girderlaw09_VectorLimits = some true := by
  unfold T_girderlaw09_VectorLimits
  rw [m1, m2]
  have faa : fitV a a = 3 := by unfold fitV; rw [if_pos rfl, if_pos (by omega)]
  have fab : fitV a b = 4 := by unfold fitV; rw [if_neg (by omega)]
  have fbb : fitV b b = 0 := by unfold fitV; rw [if_pos rfl, if_neg (by omega)]
  have a1 : T_vector_Add a a = some ([], 3) := by rw [vadd_t]; unfold eachV; rw [faa, if_neg (by omega)]
  have a2 : T_vector_Sub a a = some ([], 3) := by rw [vsub_t]; unfold eachV; rw [faa, if_neg (by omega)]
  have a3 : T_vector_Axpy (nf 4607182418800017408) a a = some ([], 3) := by rw [vaxpy_t]; unfold eachV; rw [faa, if_neg (by omega)]
  have a4 : T_vector_Dot a a = some (0, 3) := by rw [dot_t]; unfold dotV; rw [faa, if_neg (by omega)]
  have a5 : T_vector_Add a b = some ([], 4) := by rw [vadd_t]; unfold eachV; rw [fab, if_neg (by omega)]
  obtain ⟨x, a6, hx⟩ : ∃ x, T_vector_Axpy (nf 4607182418800017408) b b = some (x, 0) ∧ x.length = 4096 := ⟨zipV (fun x y => fadd (fmul (nf 4607182418800017408) x) y) b b, by rw [vaxpy_t]; unfold eachV; rw [fbb, if_pos rfl], by simp [zipV, lb]⟩
  have a7 : T_vector_Dot b b = some (0, 0) := by rw [dot_t]; unfold dotV; rw [fbb, if_pos rfl, dotN_zero zb zb]
  obtain ⟨y, a8, hy⟩ : ∃ y, T_vector_Scale (nf 4611686018427387904) a = some y ∧ y.length = 4097 := ⟨scaleV (nf 4611686018427387904) a, scale_t _ (by omega), by simp [scaleV, la]⟩
  have f0 : feq 0 (nf 0) = true := by decide +kernel
  obtain ⟨n1, n2, e1, e2, g1, g2, g3⟩ := two_nans
  have hx' : ((x.length : Nat) : Int) = 4096 := by rw [hx]; rfl
  have hy' : ((y.length : Nat) : Int) = 4097 := by rw [hy]; rfl
  simp only [Option.bind_some, a1, a2, a3, a4, a5, a6, a7, hx', f0, limits_loop, e1, e2]
  have s1 : subL [n1, n2] 0 1 = some [n1] := rfl
  have s2 : subL [n1, n2] 1 ((([n1, n2] : List Nat).length : Nat) : Int) = some [n2] := rfl
  have v : ∀ p q : Nat, T_vector_Same [p] [q] = some (p == q) := fun p q => by rw [vsame9_t (by simp)]; simp
  rw [s1]
  simp only [Option.bind_some, s2, v]
  rw [g1, g2, g3]
  simp only [awake09, a8, hy', Option.bind_some, bne_self_eq_false, beq_self_eq_true, Bool.not_true, Bool.not_false, cT, cF]

theorem limits09 : T_girderlaw09_VectorLimits = some true := limits_of mk_4097 mk_4096 List.length_replicate List.length_replicate zero_4096

section
variable {N : Nums} {P : Program} (H : AllOk N P)
include H
theorem limits09_f {w : World} :
    CallsX P N.f_girderlaw09_VectorLimits #[] w fun v w' => v = .bool true ∧ ∃ M, St w w' M :=
  wk_girderlaw09_VectorLimits H (Ho.start w) limits09 fun w1 h => ⟨rfl, h.some_old⟩
end
end Go.Eng
