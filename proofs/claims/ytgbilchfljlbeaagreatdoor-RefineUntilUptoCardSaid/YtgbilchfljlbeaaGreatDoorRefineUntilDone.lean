/-
  'girder/girderlaw14.RefineUntil' holds of the given program: whatever it is given, it answers true, and what it was given reads as it did; proved where what it reads is of bulk at most 1048576 (Rows.RefineUntilUptoCardSaid). No other condition.
-/
import Derived.Test.YtgbilchfljlbeaaGreatDoorRows
import Derived.Test.YtgbilchfljlbeaaGreatDoorCards
import Derived.Test.YtgbilchfljlbeaaGreatDoorTie
import Derived.Test.YtgbilchfljlbeaaGreatDoorOk
import Derived.Test.YtgbilchfljlbeaaGreatDoorRow4
import Derived.Test.YtgbilchfljlbeaaGreatDoorTabC
import Derived.Test.YtgbilchfljlbeaaGreatDoorLw14c
import Derived.WalkKit
import Derived.ProofKit
import Derived.OpenShut
import Derived.JoinedCond
import Derived.Deep.DeepHandedRow
import Derived.Deep.DeepWitnessRowRef
import Derived.Lib.LaidIn
import Derived.SevenTiedAt
import Derived.Below
import Derived.Lib.SmallJoins
import Derived.Laws.Cover2
namespace Go.Proofs.YtgbilchfljlbeaaGreatDoor.refineUntilDone
open Go.ChangeShapes Go.WideShapes Go.ChangeAt Go.RowKit Go.Joins Go.Eng
set_option linter.unusedVariables false
set_option linter.unusedSimpArgs false

theorem own : ownKnob Tryz.prog.godebug = none := by kernel_rfl
theorem laidOut : laidOutB Tryz.prog = true := by kernel_rfl

theorem one_le {H : Type} (d : DataW H) : Dd0 d ≤ Rows.uptoBulk d := by
  have h : ∀ l : List (DataW H), l.length ≤ Rows.uptoBulkAll l := by
    intro l
    induction l with
    | nil => simp [Rows.uptoBulkAll]
    | cons x r ih =>
      have : 1 ≤ Rows.uptoBulk x := by
        cases x with
        | lit l => cases l <;> simp [Rows.uptoBulk]
        | _ => simp [Rows.uptoBulk]
      simp only [Rows.uptoBulkAll, List.length_cons]; omega
  cases d with
  | slice es sp => have := h es; simp only [Dd0, Rows.uptoBulk]; omega
  | _ => simp [Dd0]

theorem part_le {H : Type} {d : DataW H} {l : List (DataW H)} (h : d ∈ l) : Rows.uptoBulk d ≤ Rows.uptoBulkAll l := by
  induction l with
  | nil => cases h
  | cons x r ih =>
    simp only [Rows.uptoBulkAll]
    cases List.mem_cons.1 h with
    | inl e => subst e; omega
    | inr e => have := ih e; omega

theorem int_fits {n : Int} (h : (Lit.int .i64 n).wf = true) : -9223372036854775808 ≤ n ∧ n < 9223372036854775808 := by
  simp [Lit.wf, IntKind.min, IntKind.max, IntKind.signed, IntKind.bits] at h
  omega

set_option maxRecDepth 100000 in
theorem contract (H : Type) (enc : TypeId × Value → H) (W : World) (base : Nat) (args : Array Value) (ds gs : List (DataW H)) (before : List MemPlace)
    (hval : ∀ (j : Nat) t v, Tryz.f5.params[j]? = some t → args[j]? = some v → Value.okWide Tryz.prog W .any base t v)
    (hW : DataW.Whole enc Tryz.prog Tryz.f5.params.toList Rows.refineUntilSpec.vars false W args.toList ds gs before) (hk : Rows.uptoSmall H (ds ++ gs) = true) (hL : laidMetH Tryz.prog Rows.refineUntilUptoRow.laid W) :
    Calls Tryz.prog 5 args W fun e W' => ∃ v, e = .returned v ∧ Rows.refineUntilSpec.post enc Tryz.prog Tryz.f5 false true false false W args v W' := by
  have hW' := hW
  obtain ⟨p, q, hA0, hV, rfl, hfz, hnd⟩ := hW
  have hA : DataW.TrodAll enc Tryz.prog W 0 (fun _ => true) true Tryz.f5.params.toList args.toList ds p := hA0
  rw [Tryz.params5] at hA hval
  obtain ⟨v0, vs0, d0, ds0, p0, q0, hargs, rfl, rfl, h0, r0⟩ := trodAll_cons hA
  obtain ⟨v1, vs1, d1, ds1, p1, q1, rfl, rfl, rfl, h1, r1⟩ := trodAll_cons r0
  obtain ⟨rfl, rfl, rfl⟩ := trodAll_nil r1
  obtain rfl : args = #[v0, v1] := by cases args; simp_all
  obtain ⟨rfl, rfl⟩ := trodVars_none hV
  have hbulk : Rows.uptoBulkAll ([d0, d1] ++ []) ≤ 1048576 := of_decide_eq_true hk
  have k0 := h0
  have lt0 : ∀ x ∈ p0, x.block < W.heap.size := by obtain ⟨m, hm⟩ := k0; exact DataW.trod_lt m _ _ _ hm
  have B0 : Rows.uptoBulk d0 ≤ 1048576 := Nat.le_trans (part_le (by simp)) hbulk
  obtain ⟨c00, c01, c02, c03, c04, c05, c06, c07, y00, y01, y02, y03, y04, y05, y06, y07, m0, m0', m0'', rfl, hd0, g00, g01, g02, g03, g04, g05, g06, g07⟩ := Ga1 Tryz.underlying38 Tryz.underlying24 Tryz.underlying36 ⟨by kernel_rfl, by kernel_rfl, by kernel_rfl, by kernel_rfl, by kernel_rfl, by kernel_rfl, by kernel_rfl, by kernel_rfl⟩ (by kernel_rfl) (by kernel_rfl) (by kernel_rfl) (hval 0 38 v0 rfl rfl) h0
  obtain ⟨x0a, e00, _, I0a⟩ := DataW.trod_int Tryz.underlying3 g00
  obtain rfl : c00 = .int .i64 x0a := by simpa using e00
  replace I0a := int_fits I0a
  obtain ⟨x0b, e01, _, I0b⟩ := DataW.trod_int Tryz.underlying3 g01
  obtain rfl : c01 = .int .i64 x0b := by simpa using e01
  replace I0b := int_fits I0b
  obtain ⟨a0c, n0c, s0c, l0c, e02, R0c, len0c, W0c⟩ := Bg3 Tryz.underlying22 Tryz.underlying48 (by kernel_rfl) g02
  obtain rfl : c02 = .slice a0c n0c s0c := by simpa using e02
  have L0c : n0c ≤ 1048576 := by rw [len0c]; have B := B0; subst hd0; have h1 := one_le y02.1; have h2 := part_le (d := y02.1) (l := [y00.1, y01.1, y02.1]) (by simp); have h3 := part_le (d := .agg [y00.1, y01.1, y02.1]) (l := [.agg [y00.1, y01.1, y02.1], .agg [y03.1, y04.1, y05.1], y06.1, y07.1]) (by simp); simp only [Rows.uptoBulk] at B h3; omega
  obtain ⟨x0d, e03, _, I0d⟩ := DataW.trod_int Tryz.underlying3 g03
  obtain rfl : c03 = .int .i64 x0d := by simpa using e03
  replace I0d := int_fits I0d
  obtain ⟨a0e, n0e, s0e, l0e, e04, R0e, len0e, W0e⟩ := Bg3 Tryz.underlying22 Tryz.underlying48 (by kernel_rfl) g04
  obtain rfl : c04 = .slice a0e n0e s0e := by simpa using e04
  have L0e : n0e ≤ 1048576 := by rw [len0e]; have B := B0; subst hd0; have h1 := one_le y04.1; have h2 := part_le (d := y04.1) (l := [y03.1, y04.1, y05.1]) (by simp); have h3 := part_le (d := .agg [y03.1, y04.1, y05.1]) (l := [.agg [y00.1, y01.1, y02.1], .agg [y03.1, y04.1, y05.1], y06.1, y07.1]) (by simp); simp only [Rows.uptoBulk] at B h3; omega
  obtain ⟨a0f, n0f, s0f, l0f, e05, R0f, len0f, W0f⟩ := Bg3 Tryz.underlying22 Tryz.underlying48 (by kernel_rfl) g05
  obtain rfl : c05 = .slice a0f n0f s0f := by simpa using e05
  have L0f : n0f ≤ 1048576 := by rw [len0f]; have B := B0; subst hd0; have h1 := one_le y05.1; have h2 := part_le (d := y05.1) (l := [y03.1, y04.1, y05.1]) (by simp); have h3 := part_le (d := .agg [y03.1, y04.1, y05.1]) (l := [.agg [y00.1, y01.1, y02.1], .agg [y03.1, y04.1, y05.1], y06.1, y07.1]) (by simp); simp only [Rows.uptoBulk] at B h3; omega
  obtain ⟨a0g, n0g, s0g, l0g, e06, R0g, len0g, W0g⟩ := Bg3 Tryz.underlying22 Tryz.underlying48 (by kernel_rfl) g06
  obtain rfl : c06 = .slice a0g n0g s0g := by simpa using e06
  have L0g : n0g ≤ 1048576 := by rw [len0g]; have B := B0; subst hd0; have h1 := one_le y06.1; have h2 := part_le (d := y06.1) (l := [.agg [y00.1, y01.1, y02.1], .agg [y03.1, y04.1, y05.1], y06.1, y07.1]) (by simp); simp only [Rows.uptoBulk] at B; omega
  obtain ⟨a0h, n0h, s0h, l0h, e07, R0h, len0h, W0h⟩ := Bg3 Tryz.underlying22 Tryz.underlying48 (by kernel_rfl) g07
  obtain rfl : c07 = .slice a0h n0h s0h := by simpa using e07
  have L0h : n0h ≤ 1048576 := by rw [len0h]; have B := B0; subst hd0; have h1 := one_le y07.1; have h2 := part_le (d := y07.1) (l := [.agg [y00.1, y01.1, y02.1], .agg [y03.1, y04.1, y05.1], y06.1, y07.1]) (by simp); simp only [Rows.uptoBulk] at B; omega
  have k1 := h1
  have lt1 : ∀ x ∈ p1, x.block < W.heap.size := by obtain ⟨m, hm⟩ := k1; exact DataW.trod_lt m _ _ _ hm
  have B1 : Rows.uptoBulk d1 ≤ 1048576 := Nat.le_trans (part_le (by simp)) hbulk
  obtain ⟨x1, rfl, _, _, I1⟩ := open_int Tryz.underlying3 (hval 1 3 v1 rfl rfl) h1
  replace I1 := int_fits I1
  have hL' : laidMet Tryz.prog [("math/bits.deBruijn64tab", Lib.tabData .u8 Bj1)] W := by
    have h := hL
    rw [MakeChecks.laidMetH_plain _ _ _ (by kernel_rfl)] at h
    exact h
  have hG : Bx7 Ad4.Im4 W := Gm3 (P := Tryz.prog) (t := 164) (by kernel_rfl) (by kernel_rfl) Tryz.underlying164 (by kernel_rfl) (by kernel_rfl) (by kernel_rfl) hL'

  clear hA0
  refine (Gl7 Tryz.func5 (by kernel_rfl) (by kernel_rfl) (Ge4 Hm4 R0c R0e R0f R0g R0h L0e L0f W0c W0h hG)).mono fun e W' ⟨v, he, hv, M, hS⟩ => ?_
  subst he; subst hv
  exact ⟨_, rfl, _, _, _, [], _, [], hW', trodAll_mk1 (shut_bool Tryz.underlying4 _), (trodAll_cons_mk (Below.trod laidOut (by kernel_rfl) (of_decide_eq_true (by kernel_rfl)) k0 hS.below lt0) (trodAll_cons_mk (Below.trod laidOut (by kernel_rfl) (of_decide_eq_true (by kernel_rfl)) k1 hS.below lt1) trodAll_mk0)), rfl, hS.below.frame _, fun h => by cases h⟩

/-- A world that meets the row's condition: the settled one, the table laid. -/
noncomputable def laidWorld (os : Os) : World :=
  { World.holding Tryz.prog os ⟨#[], #[], []⟩ with heap := (World.holding Tryz.prog os ⟨#[], #[], []⟩).heap.modify 1 fun
      | .cells _ t frozen => .cells (Bj1.map fun z => Value.int .u8 z).toArray t frozen
      | o => o }
theorem laid_met (os : Os) (args : Array Value) : laidMetH Tryz.prog Rows.refineUntilUptoRow.laid ((laidWorld os).forCall (fun _ _ => 0) ⟨#[], args, []⟩).memory := by
  rw [MakeChecks.laidMetH_plain _ _ _ (by kernel_rfl)]
  exact (LaidIn.of_run (P := Tryz.prog) (w := ((laidWorld os).forCall (fun _ _ => 0) ⟨#[], args, []⟩).memory) (l := Rows.refineUntilUptoRow.laid) [1] 8 (by kernel_rfl) (by kernel_rfl) (by kernel_rfl) (by kernel_rfl)).met
theorem witness_row (os : Os) {H : Type} (enc : TypeId × Value → H) :
    (Rows.OpenSpec.upto Rows.refineUntilSpec).preRow enc Tryz.prog Tryz.f5 Rows.refineUntilUptoRow.domain false Rows.refineUntilUptoRow.laid ((laidWorld os).forCall (fun _ _ => 0) ⟨#[], #[.agg #[.int .i64 0, .int .i64 0, .slice none 0 0, .int .i64 0, .slice none 0 0, .slice none 0 0, .slice none 0 0, .slice none 0 0], .int .i64 0], []⟩).memory #[.agg #[.int .i64 0, .int .i64 0, .slice none 0 0, .int .i64 0, .slice none 0 0, .slice none 0 0, .slice none 0 0, .slice none 0 0], .int .i64 0] := by
  have hw : (DataW.whole enc Tryz.prog ((laidWorld os).forCall (fun _ _ => 0) ⟨#[], #[.agg #[.int .i64 0, .int .i64 0, .slice none 0 0, .int .i64 0, .slice none 0 0, .slice none 0 0, .slice none 0 0, .slice none 0 0], .int .i64 0], []⟩).memory Tryz.f5.params.toList (Rows.OpenSpec.upto Rows.refineUntilSpec).vars false #[.agg #[.int .i64 0, .int .i64 0, .slice none 0 0, .int .i64 0, .slice none 0 0, .slice none 0 0, .slice none 0 0, .slice none 0 0], .int .i64 0].toList 8).map (fun x => (x.1, x.2.1)) =
      some ([.agg [.agg [.lit (.int .i64 0), .lit (.int .i64 0), .nil], .agg [.lit (.int .i64 0), .nil, .nil], .nil, .nil], .lit (.int .i64 0)], []) := by kernel_rfl
  obtain ⟨⟨x1, x2, x3⟩, hx, hx1⟩ := Option.map_eq_some_iff.1 hw
  simp only [Prod.mk.injEq] at hx1
  obtain ⟨rfl, rfl⟩ := hx1
  exact OpenSpec.preRow_of_cond 8 hx (by kernel_rfl) (fun k hk => by cases hk; kernel_rfl) (by kernel_rfl) (laid_met os _)

set_option maxRecDepth 100000 in
theorem lifted (os : Os) (started : os.Started) (H : Type) (enc : TypeId × Value → H) (F : Stop.Interp) :
    ReturnsInHanded {} Tryz.checked os 5 .any ((Rows.OpenSpec.upto Rows.refineUntilSpec).preRow enc Tryz.prog Tryz.f5 Rows.refineUntilUptoRow.domain false Rows.refineUntilUptoRow.laid) (((Rows.OpenSpec.upto Rows.refineUntilSpec).at F).post enc Tryz.prog Tryz.f5 false true false false) := by
  refine returnsInHanded_of_row (C := Tryz.checked) (s := Rows.OpenSpec.upto Rows.refineUntilSpec) own started (by kernel_rfl) Tryz.func5
    (witness_row_atRef (enc := enc) (C := Tryz.checked) false (laidWorld os) #[.agg #[.int .i64 0, .int .i64 0, .slice none 0 0, .int .i64 0, .slice none 0 0, .slice none 0 0, .slice none 0 0, .slice none 0 0], .int .i64 0] rfl (by kernel_rfl) (by kernel_rfl) (by kernel_rfl) (witness_row os enc)) ?_
  intro W base args ds gs before hval hW _ hk _ hL _ _
  exact contract H enc W base args ds gs before hval hW (hk _ rfl) hL

/-- THE ROW -/
theorem row : Rows.RefineUntilUptoSaid :=
  OpenClaim.holds_of_cond 5 Tryz.f5 rfl rfl rfl rfl rfl rfl rfl ⟨rfl, rfl, rfl, rfl, rfl⟩ rfl rfl rfl rfl rfl (by kernel_rfl) Tryz.func5 (by kernel_rfl)
    (of_decide_eq_true (by kernel_rfl)) (by unfold Func.isWrapper; first | (rw [if_pos (by decide +kernel)]; kernel_rfl) | (rw [if_neg (by decide +kernel)]; exact ⟨rfl, rfl⟩))
    (fun os started H enc _ F => by rw [OpenClaim.pre_eq_preRow]; exact lifted os started H enc F)

/-- THE STATEMENT -/
theorem proved : Rows.RefineUntilUptoCardSaid :=
  Claim7.holds_tied_plain_at .later [] [.data] true (true, "d0d8f62621e6a61e5cf9ad6fdb5aa000d077c647fdd76165644c2b082b18f6a0") false
    row (fun _ h => by cases h) (by kernel_rfl) (fun _ h => by cases h) refineUntilUpto_row_tie rfl ⟨rfl, rfl⟩ (by kernel_rfl) rfl
    (fun f fn hf hfn => by
      obtain rfl : f = 5 := Option.some.inj ((show Tryz.prog.funcNamed "girder/girderlaw14.RefineUntil" = some 5 by kernel_rfl).symm.trans hf) |>.symm
      obtain rfl : fn = Tryz.f5 := (Option.some.inj (Tryz.func5.symm.trans hfn)).symm
      exact ⟨by kernel_rfl, fun j t ht => by
        rw [Tryz.params5] at ht
        have hall : ∀ t' ∈ [38, 3], Tryz.prog.wantsStandIn t' = false := by
          intro t' h'
          simp only [List.mem_cons, List.not_mem_nil, or_false] at h'
          rcases h' with rfl | rfl <;> kernel_rfl
        exact hall t (by
          have := List.mem_of_getElem? (l := [38, 3]) (i := j) (a := t) (by simpa using ht)
          exact this)⟩)
    (by kernel_rfl)

end Go.Proofs.YtgbilchfljlbeaaGreatDoor.refineUntilDone
