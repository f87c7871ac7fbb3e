/-
  Each operation of the definitional reading is sound (continued): all operations in one theorem. No condition but that the table of types is the program's.
-/
import Derived.Test.YtlmndpgfnpleiaaSnd2
set_option linter.unusedVariables false
set_option linter.unusedSimpArgs false
set_option linter.unnecessarySimpa false
set_option linter.unusedSectionVars false
namespace Go.Eng
open Go

section
variable {P : Program} {T : Nat → Option TI}

theorem nth_eq {α : Type} : ∀ (l : List α) (i : Nat), nth l i = l[i]?
  | [], i => by simp [nth]
  | a :: l, 0 => by simp [nth]
  | a :: l, i + 1 => by simp [nth, nth_eq l i]

/-- slices: 'sliceBounds' and 'sliceD'. -/
theorem run_bound {x : Int} {y : Nat} {c : BoundsCode} (h : 0 ≤ x ∧ x ≤ y) (w : World) : (Instr.sliceBound (.int .i64 x) y c).run P w = .ok x.toNat w := by
  simp [Instr.sliceBound, asIntOf, h.1, h.2]

theorem sliceD_ok {size : Nat} {a : Option Addr} {len cap : Nat} {lo hi mx : Option Value} {K : Value → Prop} (h : sliceD size a len cap lo hi mx K) (isS : Bool) :
    ∃ l hh m, (∀ w, (Instr.sliceBounds isS len cap lo hi mx).run P w = .ok (l, hh, m) w) ∧ K (.slice (slBase a l m size) (hh - l) (m - l)) := by
  unfold sliceD at h
  split at h
  · exact ⟨0, len, cap, fun w => by simp [Instr.sliceBounds], by simpa using h⟩
  · obtain ⟨h1, h2, h⟩ := h
    exact ⟨_, len, cap, fun w => by simp [Instr.sliceBounds, run_bound ⟨h1, h2⟩], h⟩
  · rename_i y
    obtain ⟨h1, h2, h⟩ := h
    exact ⟨0, y.toNat, cap, fun w => by simp [Instr.sliceBounds, run_bound ⟨h1, h2⟩], by simpa using h⟩
  · obtain ⟨h1, h2, h3, h4, h⟩ := h
    exact ⟨_, _, cap, fun w => by
      simp only [Instr.sliceBounds, Sem.run_bind, Sem.run_pure, Result.andThen_ok, run_bound ⟨h1, h2⟩]
      rw [run_bound ⟨h3, by omega⟩]; rfl, h⟩
  · obtain ⟨h1, h2, h3, h4, h5, h6, h⟩ := h
    exact ⟨_, _, _, fun w => by
      simp only [Instr.sliceBounds, Sem.run_bind, Sem.run_pure, Result.andThen_ok, run_bound ⟨h1, h2⟩]
      rw [run_bound ⟨h3, by omega⟩]
      simp only [Result.andThen_ok]
      rw [run_bound ⟨h5, by omega⟩]; rfl, h⟩
  · exact h.elim

/-- Parts put into the cells of a struct or an array. -/
theorem putAt_eq : ∀ (vs : List Value) (off j : Nat) (cs : Array Value), (vs.zipIdx j).foldl (fun cs (p : Value × Nat) => cs.setIfInBounds (off + p.2) p.1) cs = (putAt (off + j) vs cs.toList).toArray
  | [], off, j, cs => by simp [putAt]
  | v :: vs, off, j, cs => by
    simp only [List.zipIdx_cons, List.foldl_cons, putAt]
    rw [putAt_eq vs off (j + 1)]
    simp [Nat.add_assoc]

theorem putAt_length : ∀ (vs : List Value) (off : Nat) (cs : List Value), (putAt off vs cs).length = cs.length
  | [], off, cs => rfl
  | v :: vs, off, cs => by simp [putAt, putAt_length vs]

theorem fill_ok {pl : Nat → Option (Nat × Nat)} : ∀ {ps : List (Nat × Value)} {cells out : List Value}, fillL pl cells ps = some out → Instr.fill pl cells.toArray ps = some out.toArray
  | [], cells, out, h => by simp only [fillL] at h; cases h; rfl
  | (i, v) :: ps, cells, out, h => by
    simp only [fillL] at h
    cases hp : pl i with
    | none => simp [hp] at h
    | some p =>
      obtain ⟨off, size⟩ := p
      simp only [hp] at h
      cases hb : Nat.beq (vcells v).length size with
      | false => simp [hb] at h
      | true =>
        cases hb2 : Nat.ble (off + size) cells.length with
        | false => simp [hb, hb2] at h
        | true =>
          simp only [hb, hb2] at h
          have e1 := Nat.eq_of_beq_eq_true hb
          have e2 := Nat.le_of_ble_eq_true hb2
          have e3 : v.cells.size = size := by rw [vcells_eq] at e1; simpa using e1
          simp only [Instr.fill, hp]
          rw [if_neg (by simp [e3]; omega)]
          have := putAt_eq (vcells v) off 0 cells.toArray
          have hz : Array.foldl (fun cs (x : Value × Nat) => cs.setIfInBounds (off + x.2) x.1) cells.toArray v.cells.zipIdx = (putAt off (vcells v) cells).toArray := by
            rw [vcells_eq] at this ⊢
            rw [← Array.foldl_toList, Array.toList_zipIdx]
            simpa using this
          rw [hz]
          exact fill_ok h

theorem cond_some_true {α : Type} {b : Bool} {A : Option α} {v : α} (h : cond b A none = some v) : b = true ∧ A = some v := by
  cases b
  · simp at h
  · exact ⟨rfl, h⟩

theorem run_pls (hT : TOk P T) : ∀ {l : List Field} {pl : List (Nat × Nat)}, plsT T (l.map fun f => (f.type, f.offset)) = some pl →
    ∀ w, (l.mapM fun f => (do pure (f.offset, ← sizeOf f.type) : Sem (Nat × Nat))).run P w = .ok pl w
  | [], pl, h, w => by simp only [List.map_nil, plsT] at h; cases h; rfl
  | f :: l, pl, h, w => by
    simp only [List.map_cons, plsT] at h
    cases hs : sizeT T f.type with
    | none => simp [hs] at h
    | some s =>
      cases hr : plsT T (l.map fun f => (f.type, f.offset)) with
      | none => simp [hs, hr] at h
      | some r =>
        simp [hs, hr] at h
        subst h
        have ih := run_pls hT hr
        simp only [sizeT] at hs
        cases hte : T f.type with
        | none => simp [hte] at hs
        | some te =>
          simp [hte] at hs
          subst hs
          simp only [List.mapM_cons, Sem.run_bind, run_size (hT _ _ hte), Result.andThen_ok, Sem.run_pure, ih]

theorem run_build {t : Nat} {ti : TI} (ht : TIOk P t ti) (hT : TOk P T) {ps : Array (Nat × Operand)} {e : Env} {ρ : Operand → Value} (he : EvOk e ρ) {w : World} {K : Value → World → Prop}
    (h : match ti.d with
    | .struct fs => bindL (plsT T fs) fun pl => bindL (evps e ps.toList) fun vs => bindL (fillL (nth pl) (vcells ti.zero) vs) fun cs => K (.agg cs.toArray) w
    | .array _ el => bindL (sizeT T el) fun s => bindL (evps e ps.toList) fun vs => bindL (fillL (fun i => some (i * s, s)) (vcells ti.zero) vs) fun cs => K (.agg cs.toArray) w
    | _ => False) : OutV P K (Instr.build t (ps.map fun (i, x) => (i, ρ x))) w := by
  obtain ⟨d, hd, hk⟩ := ht.desc
  split at h
  · rename_i fs hfs
    rw [hfs] at hk
    cases d <;> (try exact hk.elim)
    rename_i fields
    obtain ⟨pl, hpls, h⟩ := bindL_some h
    obtain ⟨vs, hvs, h⟩ := bindL_some h
    obtain ⟨cs, hcs, h⟩ := bindL_some h
    refine ⟨_, w, ?_, h⟩
    have hparts : (ps.map fun (i, x) => (i, ρ x)).toList = vs := by
      have := evps_ok he hvs
      simpa using this
    have hk' : fs = fields.toList.map fun f => (f.type, f.offset) := hk
    subst hk'
    have hpl := run_pls hT hpls w
    have := fill_ok hcs
    rw [vcells_arr] at this
    have hfn : (fun i => pl.toArray[i]?) = nth pl := by funext i; simp [nth_eq]
    simp only [Instr.build, Sem.run_bind, run_zero ht, Result.andThen_ok, run_und hd, Array.mapM_eq_mapM_toList, Sem.run_map, hpl, hparts, hfn, this, Sem.run_pure]
  · rename_i n el hn
    rw [hn] at hk
    cases d <;> (try exact hk.elim)
    obtain ⟨hk1, hk2⟩ := hk
    subst hk1; subst hk2
    obtain ⟨s, hs, h⟩ := bindL_some h
    obtain ⟨vs, hvs, h⟩ := bindL_some h
    obtain ⟨cs, hcs, h⟩ := bindL_some h
    refine ⟨_, w, ?_, h⟩
    have hparts : (ps.map fun (i, x) => (i, ρ x)).toList = vs := by
      have := evps_ok he hvs
      simpa using this
    simp only [sizeT] at hs
    cases hte : T el with
    | none => simp [hte] at hs
    | some te =>
      simp [hte] at hs
      subst hs
      have := fill_ok hcs
      rw [vcells_arr] at this
      simp only [Instr.build, Sem.run_bind, run_zero ht, Result.andThen_ok, run_und hd, run_size (hT _ _ hte), hparts, this, Sem.run_pure]
  · exact h.elim

end
end Go.Eng
