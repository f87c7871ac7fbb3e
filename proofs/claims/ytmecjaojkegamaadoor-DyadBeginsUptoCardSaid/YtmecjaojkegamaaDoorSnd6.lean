/-
  Each operation of the definitional reading is sound: all operations in one theorem. No condition but that the table of types is the program's.
-/
import Derived.Test.YtmecjaojkegamaaDoorSnd5
set_option linter.unusedVariables false
set_option linter.unusedSimpArgs false
set_option linter.unnecessarySimpa false
set_option linter.unusedSectionVars false
namespace Go.Eng
open Go

section
variable {P : Program} {T : Nat → Option TI}

theorem exCs_mono {K K' : List Value → Prop} (h : ∀ vs, K vs → K' vs) : ∀ cs, exCs cs K → exCs cs K' := by
  intro cs
  induction cs generalizing K K' with
  | nil => exact h []
  | cons c cs ih =>
    intro hh
    have key : ∀ v, exCs cs (fun vs => K (v :: vs)) → exCs cs (fun vs => K' (v :: vs)) := fun v => ih fun vs => h (v :: vs)
    cases c <;> simp only [exCs, Ce.ex] at hh ⊢
    case slice => obtain ⟨a, l, c, hh⟩ := hh; exact ⟨a, l, c, key _ hh⟩
    all_goals (obtain ⟨x, hh⟩ := hh; exact ⟨x, key _ hh⟩)

theorem ce_mono {c : Ce} {K K' : Value → Prop} (h : ∀ v, K v → K' v) (hh : c.ex K) : c.ex K' := by
  cases c <;> simp only [Ce.ex] at hh ⊢
  case slice => obtain ⟨a, l, c, hh⟩ := hh; exact ⟨a, l, c, h _ hh⟩
  all_goals (obtain ⟨x, hh⟩ := hh; exact ⟨x, h _ hh⟩)

theorem ti_some {ti : TI} {K : Value → Prop} (h : tiEx ti K) : ∃ v, K v := by
  rcases cond_or h with ⟨_, h⟩ | ⟨_, h⟩
  · have : ∀ cs {K : List Value → Prop}, exCs cs K → ∃ vs, K vs := by
      intro cs
      induction cs with
      | nil => exact fun h => ⟨[], h⟩
      | cons c cs ih =>
        intro K hh
        obtain ⟨v, hv⟩ := ex_some hh
        obtain ⟨vs, hvs⟩ := ih hv
        exact ⟨_, hvs⟩
    obtain ⟨vs, hvs⟩ := this _ h
    exact ⟨_, hvs⟩
  · exact ex_some h

theorem tup_some : ∀ {ts : List Nat} {K : List Value → Prop}, tupEx T ts K → ∃ vs, K vs
  | [], K, h => ⟨[], h⟩
  | t :: ts, K, h => by
    simp only [tupEx] at h
    cases ht : T t with
    | none => simp [ht] at h
    | some ti =>
      simp only [ht] at h
      obtain ⟨v, hv⟩ := ti_some h
      obtain ⟨vs, hvs⟩ := tup_some hv
      exact ⟨_, hvs⟩

theorem ret_some {ty : Nat} {K : Value → Prop} (h : retEx T ty K) : ∃ v, K v := by
  unfold retEx at h
  split at h
  · split at h
    · obtain ⟨vs, hvs⟩ := tup_some h; exact ⟨_, hvs⟩
    · exact ti_some h
  · exact h.elim

theorem out_mono {K K' : Value → World → Prop} {r : Result Next} (h : ∀ v w, K v w → K' v w) (hh : Out P K r) : Out P K' r := by
  unfold Out at hh ⊢
  split at hh
  · exact h _ _ hh
  · exact h _ _ hh
  · exact hh.mono fun e w' ⟨v, he, hk⟩ => ⟨v, he, h _ _ hk⟩
  · exact hh.elim

theorem CallsX.mono {f : FuncId} {args : Array Value} {w : World} {K K' : Value → World → Prop} (hh : CallsX P f args w K) (h : ∀ v w, K v w → K' v w) : CallsX P f args w K' := out_mono h hh

/-- ALL OPERATIONS. -/
theorem opD_ok (hT : TOk P T) (hZ : TSize T) {e : Env} {ρ : Operand → Value} (he : EvOk e ρ) {o : Oper} {w : World} {K : Value → World → Prop} (h : opD P T e o.type o.op w K) :
    Out P K ((execOp ρ o).run P w) := by
  obtain ⟨dst, op, ty, pos, after, guard⟩ := o
  cases op with
  | move x =>
    obtain ⟨v, hv, h⟩ := bindV_some h
    simp only [execOp, he _ _ hv, Sem.run_pure]; exact h
  | assign x =>
    obtain ⟨v, hv, h⟩ := bindV_some h
    simp only [execOp, he _ _ hv, Sem.run_pure]; exact h
  | pick c a b =>
    obtain ⟨v, hv, h⟩ := bindV_some h
    split at h
    · rename_i t
      rcases cond_or h with ⟨rfl, h⟩ | ⟨rfl, h⟩
      · obtain ⟨u, hu, h⟩ := bindV_some h
        simp only [execOp, he _ _ hv, he _ _ hu, asBool, Sem.run_bind, Sem.run_pure, Result.andThen_ok, if_true]; exact h
      · obtain ⟨u, hu, h⟩ := bindV_some h
        simp only [execOp, he _ _ hv, he _ _ hu, asBool, Sem.run_bind, Sem.run_pure, Result.andThen_ok, Bool.false_eq_true, if_false]; exact h
    · exact h.elim
  | alloc t =>
    obtain ⟨ti, hti, h⟩ := bindL_some h
    refine out_of_v ⟨_, _, ?_, h⟩
    simp only [Instr.alloc, Sem.run_bind, run_zero (hT _ _ hti), Result.andThen_ok, newVar, newRow, run_newObj, Sem.run_pure, vcells_arr]
    rfl
  | box t x =>
    obtain ⟨v, hv, h⟩ := bindV_some h
    refine out_of_v ⟨_, _, ?_, h⟩
    simp only [Instr.box, he _ _ hv, Sem.run_bind, Result.andThen_ok, newVar, newRow, run_newObj, Sem.run_pure, vcells_arr]
    rfl
  | build t ps =>
    obtain ⟨ti, hti, h⟩ := bindL_some h
    exact out_of_v (run_build (hT _ _ hti) hT he h)
  | buildSlice t n ps =>
    obtain ⟨ti, hti, h⟩ := bindL_some h
    exact out_of_v (run_buildSlice (hT _ _ hti) hT he h)
  | load t a =>
    obtain ⟨ti, hti, h⟩ := bindL_some h
    obtain ⟨p, hp, h⟩ := bindV_some h
    obtain ⟨a, v, rfl, hr, hk⟩ := run_loadD (hT _ _ hti) (hZ _ _ hti) h
    refine out_of_v ⟨v, w, ?_, hk⟩
    simp only [Instr.loadAt, he _ _ hp, Instr.sureAddr, Sem.run_bind, Sem.run_pure, Result.andThen_ok, hr]
  | store t a x =>
    obtain ⟨ti, hti, h⟩ := bindL_some h
    obtain ⟨p, hp, h⟩ := bindV_some h
    obtain ⟨v, hv, h⟩ := bindV_some h
    obtain ⟨a, w', rfl, hr, hk⟩ := run_storeD (hT _ _ hti) h
    simp only [execOp, Instr.storeAt, he _ _ hp, he _ _ hv, Instr.sureAddr, Sem.run_bind, Sem.run_pure, Result.andThen_ok, hr]
    exact hk
  | nilCheck x =>
    obtain ⟨v, hv, h⟩ := bindV_some h
    split at h
    · obtain ⟨a, rfl, h⟩ := optM_some h
      simp only [execOp, he _ _ hv, Sem.run_pure]; exact h
    · simp only [execOp, he _ _ hv, Sem.run_pure]; exact h
    · exact h.elim
  | binOp bop t x y ty2 =>
    obtain ⟨ti, hti, h⟩ := bindL_some h
    obtain ⟨a, ha, h⟩ := bindV_some h
    obtain ⟨b, hb, h⟩ := bindV_some h
    refine out_of_v ?_
    obtain ⟨v, w', hr, hk⟩ := binD_ok (P := P) (hT _ _ hti) h
    refine ⟨v, w', ?_, hk⟩
    simp only [he _ _ ha, he _ _ hb, Sem.run_bind, eqGuard_ok h, Result.andThen_ok, hr]
  | unOp uop t x =>
    obtain ⟨v, hv, h⟩ := bindV_some h
    have := unD_ok (P := P) h
    rw [← he _ _ hv] at this
    exact out_of_v this
  | convert sT dT x =>
    obtain ⟨ts, hts, h⟩ := bindL_some h
    obtain ⟨td, htd, h⟩ := bindL_some h
    obtain ⟨v, hv, h⟩ := bindV_some h
    have := convD_ok (P := P) (hT _ _ hts) (hT _ _ htd) h
    rw [← he _ _ hv] at this
    exact out_of_v this
  | makeFunc fn a b =>
    obtain ⟨va, hva, h⟩ := bindL_some h
    obtain ⟨vb, hvb, h⟩ := bindL_some h
    refine out_of_v ⟨_, w, ?_, h⟩
    have e1 := evs_ok he hva
    have e2 := evs_ok he hvb
    simp only [Instr.makeFunc, Sem.run_pure]
    congr 2
    · apply Array.ext'; simp [e1]
    · apply Array.ext'; simp [e2]
  | makeSlice t l c =>
    obtain ⟨ti, hti, h⟩ := bindL_some h
    obtain ⟨d, hd, hk⟩ := (hT _ _ hti).desc
    split at h
    · rename_i el hel
      rw [hel] at hk
      cases d <;> (try exact hk.elim)
      cases hk
      obtain ⟨te, hte, h⟩ := bindL_some h
      obtain ⟨vl, hvl, h⟩ := bindV_some h
      obtain ⟨vc, hvc, h⟩ := bindV_some h
      split at h
      · obtain ⟨h0, h1, h2, h3, h⟩ := h
        refine out_of_v ⟨_, _, ?_, h⟩
        rw [he _ _ hvl, he _ _ hvc]
        exact run_makeSlice hd rfl (hT _ _ hte) h0 h1 h2 h3 w
      · exact h.elim
    · exact h.elim
  | slice t x lo hi mx =>
    obtain ⟨ti, hti, h⟩ := bindL_some h
    obtain ⟨v, hv, h⟩ := bindV_some h
    obtain ⟨l, hl, h⟩ := bindL_some h
    obtain ⟨hh, hhi, h⟩ := bindL_some h
    obtain ⟨m, hm, h⟩ := bindL_some h
    have := run_sliceAt (P := P) (hT _ _ hti) hT h
    rw [← he _ _ hv, ← evo_ok he hl, ← evo_ok he hhi, ← evo_ok he hm] at this
    exact out_of_v this
  | fieldAddr t x i =>
    obtain ⟨ti, hti, h⟩ := bindL_some h
    cases hx : ev e x with
    | none =>
      exfalso
      split at h
      · obtain ⟨f, _, h⟩ := bindL_some h
        obtain ⟨s, _, h⟩ := bindL_some h
        rcases cond_or h with ⟨_, h⟩ | ⟨_, h⟩
        · exact h
        · simp [hx, bindV] at h
      · exact h
    | some v =>
      simp only [hx, bindV] at h
      have := run_fieldAt (P := P) (v := v) (K := K) (hT _ _ hti) hT h
      rw [← he _ _ hx] at this
      exact out_of_v this
  | field t x i =>
    obtain ⟨ti, hti, h⟩ := bindL_some h
    cases hx : ev e x with
    | none =>
      exfalso
      split at h
      · obtain ⟨f, _, h⟩ := bindL_some h
        obtain ⟨s, _, h⟩ := bindL_some h
        simp [hx, bindV] at h
      · exact h
    | some v =>
      simp only [hx, bindV] at h
      have := run_field (P := P) (v := v) (K := K) (hT _ _ hti) hT h
      rw [← he _ _ hx] at this
      exact out_of_v this
  | indexAddr t x ix =>
    obtain ⟨ti, hti, h⟩ := bindL_some h
    obtain ⟨v, hv, h⟩ := bindV_some h
    obtain ⟨vi, hvi, h⟩ := bindV_some h
    have := run_indexAt (P := P) (hT _ _ hti) hT h
    rw [← he _ _ hv, ← he _ _ hvi] at this
    exact out_of_v this
  | index t x ix =>
    obtain ⟨ti, hti, h⟩ := bindL_some h
    obtain ⟨v, hv, h⟩ := bindV_some h
    obtain ⟨vi, hvi, h⟩ := bindV_some h
    have := run_index (P := P) (hT _ _ hti) hT h
    rw [← he _ _ hv, ← he _ _ hvi] at this
    exact out_of_v this
  | extract x i =>
    obtain ⟨v, hv, h⟩ := bindV_some h
    split at h
    · rename_i vs
      obtain ⟨u, hu, h⟩ := bindL_some h
      rw [nth_eq] at hu
      have hu' : vs[i]? = some u := by simpa using hu
      refine out_of_v ⟨u, w, ?_, h⟩
      simp only [he _ _ hv, Instr.extract, hu', Sem.run_pure]
    · exact h.elim
  | call c =>
    obtain ⟨args, hargs, h⟩ := bindL_some h
    obtain ⟨callee, cargs, ctypes⟩ := c
    have e1 : cargs.map ρ = args.toArray := by
      have := evs_ok he hargs
      apply Array.ext'; simp [← this]
    cases callee with
    | builtin b =>
      have := builtinD_ok (P := P) (ty := ty) (cs := cargs.map fun | .const _ => true | _ => false) hT h
      simp only [execOp, resolve, Sem.run_bind, Sem.run_pure, Result.andThen_ok, invoke, e1]
      exact this
    | value f =>
      obtain ⟨v, hv, h⟩ := bindV_some h
      obtain ⟨fid, first, cap, rfl⟩ : ∃ fid first cap, v = .func (.func fid) first cap := by
        unfold fnM at h; split at h
        · exact ⟨_, _, _, rfl⟩
        · exact h.elim
      have h' : CallsX P fid (first.toList ++ (args ++ cap.toList)).toArray w fun v w' => retEx T ty fun u => v = u ∧ K u w' := h
      have h2 := h'.mono (K' := K) fun v w' hr => by
        obtain ⟨u, hu, hk⟩ := ret_some hr
        rw [hu]; exact hk
      simp only [execOp, resolve, Deferred.ofValue, he _ _ hv, Sem.run_bind, Sem.run_pure, Result.andThen_ok, invoke, e1]
      unfold CallsX at h2
      have e2 : first ++ args.toArray ++ cap = (first.toList ++ (args ++ cap.toList)).toArray := by
        apply Array.ext'; simp
      rw [e2]
      exact h2
    | invoke r m => exact h.elim
  | _ => exact (show False from h).elim

end
end Go.Eng
