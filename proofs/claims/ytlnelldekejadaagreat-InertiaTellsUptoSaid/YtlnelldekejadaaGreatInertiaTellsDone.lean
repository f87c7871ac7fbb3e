/-
  'girder/girderlaw16.InertiaTells' holds of the given program: whatever it is given, it answers true, and what it was given reads as it did; proved where what it reads is of bulk at most 1048576 (Rows.InertiaTellsUptoSaid). No other condition.
-/
import Derived.Test.YtlnelldekejadaaGreatRows
import Derived.Test.YtlnelldekejadaaGreatOk
import Derived.Test.YtlnelldekejadaaGreatRow2
import Derived.Test.YtlnelldekejadaaGreatRow5
import Derived.Test.YtlnelldekejadaaGreatIn23
import Derived.WalkKit
import Derived.ProofKit
import Derived.OpenShut
import Derived.JoinedCond
import Derived.Below
import Derived.Lib.SmallJoins
import Derived.Laws.Cover2
namespace Go.Proofs.YtlnelldekejadaaGreat.inertiaTellsDone
open Go.ChangeShapes Go.WideShapes Go.ChangeAt Go.RowKit Go.Joins Go.Eng
set_option linter.unusedVariables false
set_option linter.unusedSimpArgs false

theorem own : ownKnob Tryz.prog.godebug = none := by kernel_rfl
theorem laidOut : laidOutB Tryz.prog = true := by kernel_rfl

theorem one_le {H : Type} (d : DataW H) : Bp7 d ≤ Rows.uptoBulk d := by
  have h : ∀ l : List (DataW H), l.length ≤ Rows.uptoBulkAll l := by
    intro l
    induction l with
    | nil => simp [Rows.uptoBulkAll]
    | cons x r ih =>
      have : 1 ≤ Rows.uptoBulk x := by
        cases x with
        | lit l => cases l <;> simp [Rows.uptoBulk]
        | _ => simp [Rows.uptoBulk]
      simp only [Rows.uptoBulkAll, List.length_cons]; omega
  cases d with
  | slice es sp => have := h es; simp only [Bp7, Rows.uptoBulk]; omega
  | _ => simp [Bp7]

theorem part_le {H : Type} {d : DataW H} {l : List (DataW H)} (h : d ∈ l) : Rows.uptoBulk d ≤ Rows.uptoBulkAll l := by
  induction l with
  | nil => cases h
  | cons x r ih =>
    simp only [Rows.uptoBulkAll]
    cases List.mem_cons.1 h with
    | inl e => subst e; omega
    | inr e => have := ih e; omega

theorem int_fits {n : Int} (h : (Lit.int .i64 n).wf = true) : -9223372036854775808 ≤ n ∧ n < 9223372036854775808 := by
  simp [Lit.wf, IntKind.min, IntKind.max, IntKind.signed, IntKind.bits] at h
  omega

set_option maxRecDepth 100000 in
theorem contract (H : Type) (enc : TypeId × Value → H) (W : World) (base : Nat) (args : Array Value) (ds gs : List (DataW H)) (before : List MemPlace)
    (hval : ∀ (j : Nat) t v, Tryz.f3.params[j]? = some t → args[j]? = some v → Value.okWide Tryz.prog W .any base t v)
    (hW : DataW.Whole enc Tryz.prog Tryz.f3.params.toList Rows.inertiaTellsSpec.vars false W args.toList ds gs before) (hk : Rows.uptoSmall H (ds ++ gs) = true) :
    Calls Tryz.prog 3 args W fun e W' => ∃ v, e = .returned v ∧ Rows.inertiaTellsSpec.post enc Tryz.prog Tryz.f3 false true false false W args v W' := by
  have hW' := hW
  obtain ⟨p, q, hA0, hV, rfl, hfz, hnd⟩ := hW
  have hA : DataW.TrodAll enc Tryz.prog W 0 (fun _ => true) true Tryz.f3.params.toList args.toList ds p := hA0
  rw [Tryz.params3] at hA hval
  obtain ⟨v0, vs0, d0, ds0, p0, q0, hargs, rfl, rfl, h0, r0⟩ := trodAll_cons hA
  obtain ⟨v1, vs1, d1, ds1, p1, q1, rfl, rfl, rfl, h1, r1⟩ := trodAll_cons r0
  obtain ⟨rfl, rfl, rfl⟩ := trodAll_nil r1
  obtain rfl : args = #[v0, v1] := by cases args; simp_all
  obtain ⟨rfl, rfl⟩ := trodVars_none hV
  have hbulk : Rows.uptoBulkAll ([d0, d1] ++ []) ≤ 1048576 := of_decide_eq_true hk
  have k0 := h0
  have lt0 : ∀ x ∈ p0, x.block < W.heap.size := by obtain ⟨m, hm⟩ := k0; exact DataW.trod_lt m _ _ _ hm
  have B0 : Rows.uptoBulk d0 ≤ 1048576 := Nat.le_trans (part_le (by simp)) hbulk
  obtain ⟨c00, c01, c02, y00, y01, y02, m0, rfl, hd0, hp0, g00, g01, g02⟩ := open_agg3 Tryz.underlying24 (by kernel_rfl) (by kernel_rfl) (hval 0 24 v0 rfl rfl) h0
  obtain ⟨x0a, e00, _, I0a⟩ := DataW.trod_int Tryz.underlying3 g00
  obtain rfl : c00 = .int .i64 x0a := by simpa using e00
  replace I0a := int_fits I0a
  obtain ⟨x0b, e01, _, I0b⟩ := DataW.trod_int Tryz.underlying3 g01
  obtain rfl : c01 = .int .i64 x0b := by simpa using e01
  replace I0b := int_fits I0b
  obtain ⟨a0c, n0c, s0c, l0c, hh0c, e02, R0c, len0c, P0c, Q0c, D0c, Y0c⟩ := Ex3 Tryz.underlying22 Tryz.underlying27 (by kernel_rfl) (by kernel_rfl) Tryz.underlying4 Tryz.underlying25 Tryz.underlying78 (by kernel_rfl) Tryz.underlying3 g02
  obtain rfl : c02 = .slice a0c n0c s0c := by simpa using e02
  have L0c : n0c ≤ 1048576 := by rw [len0c]; have B := B0; subst hd0; have h1 := one_le y02.1; have h2 := part_le (d := y02.1) (l := [y00.1, y01.1, y02.1]) (by simp); simp only [Rows.uptoBulk] at B; omega
  have W0c : ∀ d ∈ l0c, (∀ y ∈ d.2.1, (Lit.int .u64 y).wf = true) ∧ d.2.1.length ≤ 1048576 := by
    intro d hd
    obtain ⟨w1, es, sp, b, s, e, hx, hm, hlen⟩ := Y0c d hd
    refine ⟨w1, ?_⟩
    rw [hlen]
    have a1 := one_le s
    have a2 := part_le (d := s) (l := [b, s, e]) (by simp)
    have a3 := part_le hm
    have B := B0
    subst hd0
    have h2 := part_le (d := y02.1) (l := [y00.1, y01.1, y02.1]) (by simp)
    rw [hx] at h2 B
    simp only [Rows.uptoBulk] at a3 B h2
    omega
  have k1 := h1
  have lt1 : ∀ x ∈ p1, x.block < W.heap.size := by obtain ⟨m, hm⟩ := k1; exact DataW.trod_lt m _ _ _ hm
  have B1 : Rows.uptoBulk d1 ≤ 1048576 := Nat.le_trans (part_le (by simp)) hbulk
  obtain ⟨c10, c11, c12, y10, y11, y12, m1, rfl, hd1, hp1, g10, g11, g12⟩ := open_agg3 Tryz.underlying27 (by kernel_rfl) (by kernel_rfl) (hval 1 27 v1 rfl rfl) h1
  obtain ⟨x1a, e10, _⟩ := DataW.trod_bool Tryz.underlying4 g10
  obtain rfl : c10 = .bool x1a := by simpa using e10
  obtain ⟨a1b, n1b, s1b, l1b, e11, R1b, len1b, W1b⟩ := Dq4 Tryz.underlying25 Tryz.underlying78 (by kernel_rfl) g11
  obtain rfl : c11 = .slice a1b n1b s1b := by simpa using e11
  have L1b : n1b ≤ 1048576 := by rw [len1b]; have B := B1; subst hd1; have h1 := one_le y11.1; have h2 := part_le (d := y11.1) (l := [y10.1, y11.1, y12.1]) (by simp); simp only [Rows.uptoBulk] at B; omega
  obtain ⟨x1c, e12, _, I1c⟩ := DataW.trod_int Tryz.underlying3 g12
  obtain rfl : c12 = .int .i64 x1c := by simpa using e12
  replace I1c := int_fits I1c
  clear hA0
  refine (Fv6 Tryz.func3 (by kernel_rfl) (by kernel_rfl) (Fk8 Gw0 R0c P0c Q0c D0c W0c L0c R1b L1b W1b)).mono fun e W' ⟨v, he, hv, M, hS⟩ => ?_
  subst he; subst hv
  exact ⟨_, rfl, _, _, _, [], _, [], hW', trodAll_mk1 (shut_bool Tryz.underlying4 _), (trodAll_cons_mk (Below.trod laidOut (by kernel_rfl) (of_decide_eq_true (by kernel_rfl)) k0 hS.below lt0) (trodAll_cons_mk (Below.trod laidOut (by kernel_rfl) (of_decide_eq_true (by kernel_rfl)) k1 hS.below lt1) trodAll_mk0)), rfl, hS.below.frame _, fun h => by cases h⟩

set_option maxRecDepth 100000 in
theorem lifted (os : Os) (started : os.Started) (H : Type) (enc : TypeId × Value → H) (F : Stop.Interp) :
    ReturnsInHanded {} Tryz.checked os 3 .any ((Rows.OpenSpec.upto Rows.inertiaTellsSpec).pre6 enc Tryz.prog Tryz.f3 Rows.inertiaTellsUptoRow.domain false) (((Rows.OpenSpec.upto Rows.inertiaTellsSpec).at F).post enc Tryz.prog Tryz.f3 false true false false) := by
  refine returnsInHanded_of_cond (C := Tryz.checked) (s := Rows.OpenSpec.upto Rows.inertiaTellsSpec) (k := Rows.uptoSmall) rfl own started (by kernel_rfl) Tryz.func3
    (OpenSpec.witness (enc := enc) (C := Tryz.checked) (s := Rows.OpenSpec.upto Rows.inertiaTellsSpec) (k := Rows.uptoSmall) rfl false ⟨#[], #[.agg #[.int .i64 0, .int .i64 0, .slice none 0 0], .agg #[.bool false, .slice none 0 0, .int .i64 0]], []⟩ 8 (by kernel_rfl) (by kernel_rfl) (by kernel_rfl)
      (x := ([.agg [.lit (.int .i64 0), .lit (.int .i64 0), .nil], .agg [.lit (.bool false), .nil, .lit (.int .i64 0)]], [], [])) (by kernel_rfl) rfl (by kernel_rfl)) ?_
  intro W base args ds gs before hval hW _ hk _
  exact contract H enc W base args ds gs before hval hW hk

/-- THE STATEMENT -/
theorem proved : Rows.InertiaTellsUptoSaid :=
  OpenClaim.holds_of_cond 3 Tryz.f3 rfl rfl rfl rfl rfl rfl rfl ⟨rfl, rfl, rfl, rfl, rfl⟩ rfl rfl rfl rfl rfl (by kernel_rfl) Tryz.func3 (by kernel_rfl)
    (of_decide_eq_true (by kernel_rfl)) (by unfold Func.isWrapper; first | (rw [if_pos (by decide +kernel)]; kernel_rfl) | (rw [if_neg (by decide +kernel)]; exact ⟨rfl, rfl⟩))
    (fun os started H enc _ F => lifted os started H enc F)

end Go.Proofs.YtlnelldekejadaaGreat.inertiaTellsDone
