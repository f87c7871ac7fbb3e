/-
  'girder/girderlaw16.InertiaDescartes' holds of the given program: whatever it is given, it answers true, and what it was given reads as it did; proved where what it reads is of bulk at most 1048576 (Rows.InertiaDescartesUptoSaid). No other condition.
-/
import Derived.Test.YtlnelldekejadaaRows
import Derived.Test.YtlnelldekejadaaOk
import Derived.Test.YtlnelldekejadaaRow2
import Derived.Test.YtlnelldekejadaaRow5
import Derived.Test.YtlnelldekejadaaIn13
import Derived.WalkKit
import Derived.ProofKit
import Derived.OpenShut
import Derived.JoinedCond
import Derived.Below
import Derived.Lib.SmallJoins
import Derived.Laws.Cover2
namespace Go.Proofs.Ytlnelldekejadaa.inertiaDescartesDone
open Go.ChangeShapes Go.WideShapes Go.ChangeAt Go.RowKit Go.Joins Go.Eng
set_option linter.unusedVariables false
set_option linter.unusedSimpArgs false

theorem own : ownKnob Try.prog.godebug = none := by kernel_rfl
theorem laidOut : laidOutB Try.prog = true := by kernel_rfl

theorem one_le {H : Type} (d : DataW H) : elemsIn d ≤ Rows.uptoBulk d := by
  have h : ∀ l : List (DataW H), l.length ≤ Rows.uptoBulkAll l := by
    intro l
    induction l with
    | nil => simp [Rows.uptoBulkAll]
    | cons x r ih =>
      have : 1 ≤ Rows.uptoBulk x := by
        cases x with
        | lit l => cases l <;> simp [Rows.uptoBulk]
        | _ => simp [Rows.uptoBulk]
      simp only [Rows.uptoBulkAll, List.length_cons]; omega
  cases d with
  | slice es sp => have := h es; simp only [elemsIn, Rows.uptoBulk]; omega
  | _ => simp [elemsIn]

theorem part_le {H : Type} {d : DataW H} {l : List (DataW H)} (h : d ∈ l) : Rows.uptoBulk d ≤ Rows.uptoBulkAll l := by
  induction l with
  | nil => cases h
  | cons x r ih =>
    simp only [Rows.uptoBulkAll]
    cases List.mem_cons.1 h with
    | inl e => subst e; omega
    | inr e => have := ih e; omega

theorem int_fits {n : Int} (h : (Lit.int .i64 n).wf = true) : -9223372036854775808 ≤ n ∧ n < 9223372036854775808 := by
  simp [Lit.wf, IntKind.min, IntKind.max, IntKind.signed, IntKind.bits] at h
  omega

set_option maxRecDepth 100000 in
theorem contract (H : Type) (enc : TypeId × Value → H) (W : World) (base : Nat) (args : Array Value) (ds gs : List (DataW H)) (before : List MemPlace)
    (hval : ∀ (j : Nat) t v, Try.f5.params[j]? = some t → args[j]? = some v → Value.okWide Try.prog W .any base t v)
    (hW : DataW.Whole enc Try.prog Try.f5.params.toList Rows.inertiaDescartesSpec.vars false W args.toList ds gs before) (hk : Rows.uptoSmall H (ds ++ gs) = true) :
    Calls Try.prog 5 args W fun e W' => ∃ v, e = .returned v ∧ Rows.inertiaDescartesSpec.post enc Try.prog Try.f5 false true false false W args v W' := by
  have hW' := hW
  obtain ⟨p, q, hA0, hV, rfl, hfz, hnd⟩ := hW
  have hA : DataW.TrodAll enc Try.prog W 0 (fun _ => true) true Try.f5.params.toList args.toList ds p := hA0
  rw [Try.params5] at hA hval
  obtain ⟨v0, vs0, d0, ds0, p0, q0, hargs, rfl, rfl, h0, r0⟩ := trodAll_cons hA
  obtain ⟨rfl, rfl, rfl⟩ := trodAll_nil r0
  obtain rfl : args = #[v0] := by cases args; simp_all
  obtain ⟨rfl, rfl⟩ := trodVars_none hV
  have hbulk : Rows.uptoBulkAll ([d0] ++ []) ≤ 1048576 := of_decide_eq_true hk
  have k0 := h0
  have lt0 : ∀ x ∈ p0, x.block < W.heap.size := by obtain ⟨m, hm⟩ := k0; exact DataW.trod_lt m _ _ _ hm
  have B0 : Rows.uptoBulk d0 ≤ 1048576 := Nat.le_trans (part_le (by simp)) hbulk
  obtain ⟨c00, c01, c02, y00, y01, y02, m0, rfl, hd0, hp0, g00, g01, g02⟩ := open_agg3 Try.underlying29 (by kernel_rfl) (by kernel_rfl) (hval 0 29 v0 rfl rfl) h0
  obtain ⟨x0a, e00, _, I0a⟩ := DataW.trod_int Try.underlying3 g00
  obtain rfl : c00 = .int .i64 x0a := by simpa using e00
  replace I0a := int_fits I0a
  obtain ⟨x0b, e01, _, I0b⟩ := DataW.trod_int Try.underlying3 g01
  obtain rfl : c01 = .int .i64 x0b := by simpa using e01
  replace I0b := int_fits I0b
  obtain ⟨a0c, n0c, s0c, l0c, hh0c, e02, R0c, len0c, P0c, Q0c, D0c, Y0c⟩ := open_dyads Try.underlying27 Try.underlying38 (by kernel_rfl) (by kernel_rfl) Try.underlying4 Try.underlying36 Try.underlying35 (by kernel_rfl) Try.underlying3 g02
  obtain rfl : c02 = .slice a0c n0c s0c := by simpa using e02
  have L0c : n0c ≤ 1048576 := by rw [len0c]; have B := B0; subst hd0; have h1 := one_le y02.1; have h2 := part_le (d := y02.1) (l := [y00.1, y01.1, y02.1]) (by simp); simp only [Rows.uptoBulk] at B; omega
  have W0c : ∀ d ∈ l0c, (∀ y ∈ d.2.1, (Lit.int .u64 y).wf = true) ∧ d.2.1.length ≤ 1048576 := by
    intro d hd
    obtain ⟨w1, es, sp, b, s, e, hx, hm, hlen⟩ := Y0c d hd
    refine ⟨w1, ?_⟩
    rw [hlen]
    have a1 := one_le s
    have a2 := part_le (d := s) (l := [b, s, e]) (by simp)
    have a3 := part_le hm
    have B := B0
    subst hd0
    have h2 := part_le (d := y02.1) (l := [y00.1, y01.1, y02.1]) (by simp)
    rw [hx] at h2 B
    simp only [Rows.uptoBulk] at a3 B h2
    omega
  clear hA0
  refine (calls_of Try.func5 (by kernel_rfl) (by kernel_rfl) (desc16_f allOk R0c P0c Q0c D0c W0c L0c)).mono fun e W' ⟨v, he, hv, M, hS⟩ => ?_
  subst he; subst hv
  exact ⟨_, rfl, _, _, _, [], _, [], hW', trodAll_mk1 (shut_bool Try.underlying4 _), (trodAll_cons_mk (Below.trod laidOut (by kernel_rfl) (of_decide_eq_true (by kernel_rfl)) k0 hS.below lt0) trodAll_mk0), rfl, hS.below.frame _, fun h => by cases h⟩

set_option maxRecDepth 100000 in
theorem lifted (os : Os) (started : os.Started) (H : Type) (enc : TypeId × Value → H) (F : Stop.Interp) :
    ReturnsInHanded {} Try.checked os 5 .any ((Rows.OpenSpec.upto Rows.inertiaDescartesSpec).pre6 enc Try.prog Try.f5 Rows.inertiaDescartesUptoRow.domain false) (((Rows.OpenSpec.upto Rows.inertiaDescartesSpec).at F).post enc Try.prog Try.f5 false true false false) := by
  refine returnsInHanded_of_cond (C := Try.checked) (s := Rows.OpenSpec.upto Rows.inertiaDescartesSpec) (k := Rows.uptoSmall) rfl own started (by kernel_rfl) Try.func5
    (OpenSpec.witness (enc := enc) (C := Try.checked) (s := Rows.OpenSpec.upto Rows.inertiaDescartesSpec) (k := Rows.uptoSmall) rfl false ⟨#[], #[.agg #[.int .i64 0, .int .i64 0, .slice none 0 0]], []⟩ 8 (by kernel_rfl) (by kernel_rfl) (by kernel_rfl)
      (x := ([.agg [.lit (.int .i64 0), .lit (.int .i64 0), .nil]], [], [])) (by kernel_rfl) rfl (by kernel_rfl)) ?_
  intro W base args ds gs before hval hW _ hk _
  exact contract H enc W base args ds gs before hval hW hk

/-- THE STATEMENT -/
theorem proved : Rows.InertiaDescartesUptoSaid :=
  OpenClaim.holds_of_cond 5 Try.f5 rfl rfl rfl rfl rfl rfl rfl ⟨rfl, rfl, rfl, rfl, rfl⟩ rfl rfl rfl rfl rfl (by kernel_rfl) Try.func5 (by kernel_rfl)
    (of_decide_eq_true (by kernel_rfl)) (by unfold Func.isWrapper; first | (rw [if_pos (by decide +kernel)]; kernel_rfl) | (rw [if_neg (by decide +kernel)]; exact ⟨rfl, rfl⟩))
    (fun os started H enc _ F => lifted os started H enc F)

end Go.Proofs.Ytlnelldekejadaa.inertiaDescartesDone
