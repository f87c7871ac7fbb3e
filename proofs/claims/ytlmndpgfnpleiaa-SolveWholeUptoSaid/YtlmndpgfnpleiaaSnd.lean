/-
  Each operation of the definitional reading is sound: if 'opD' holds, the model's own operation comes to a value of which what was asked holds. No condition but that the table of types is the program's.
-/
import Derived.Test.YtlmndpgfnpleiaaEng
import Derived.Laws.Sem
import Derived.Laws.World
import Derived.ChangeKeysEq
import Derived.Laws.Cells
set_option linter.unusedVariables false
set_option linter.unusedSimpArgs false
set_option linter.unnecessarySimpa false
set_option linter.unusedSectionVars false
namespace Go.Eng
open Go

/-- A row of the table of types is the program's. -/
def TDOk : TD → TypeDesc → Prop
  | .bool, .bool => True
  | .int k, .int k' => k = k'
  | .float k, .float k' => k = k'
  | .string, .string => True
  | .ptr e, .pointer e' => e = e'
  | .slice e, .slice e' => e = e'
  | .array n e, .array n' e' => n = n' ∧ e = e'
  | .struct fs, .struct fields => fs = fields.toList.map fun f => (f.type, f.offset)
  | .tuple ts, .tuple es => ts = es.toList
  | .func, .func _ _ _ => True
  | .other, d => match d with | .struct _ => False | .array _ _ => False | _ => True
  | _, _ => False

structure TIOk (P : Program) (t : Nat) (ti : TI) : Prop where
  info : ∃ i, P.info? t = some i ∧ i.size = ti.size ∧ i.bytes = ti.bytes ∧ i.zero = some ti.zero
  desc : ∃ d, P.underlying t = some d ∧ TDOk ti.d d

def TOk (P : Program) (T : Nat → Option TI) : Prop := ∀ t ti, T t = some ti → TIOk P t ti

theorem bindL_some {α : Type} {o : Option α} {K : α → Prop} (h : bindL o K) : ∃ v, o = some v ∧ K v := by
  cases o with
  | none => exact h.elim
  | some v => exact ⟨v, rfl, h⟩
theorem bindV_some {o : Option Value} {K : Value → Prop} (h : bindV o K) : ∃ v, o = some v ∧ K v := by
  cases o with
  | none => exact h.elim
  | some v => exact ⟨v, rfl, h⟩
theorem optM_some {α : Type} {o : Option α} {K : α → Prop} (h : optM o K) : ∃ v, o = some v ∧ K v := by
  cases o with
  | none => exact h.elim
  | some v => exact ⟨v, rfl, h⟩
theorem cond_or {b : Bool} {A B : Prop} (h : cond b A B) : (b = true ∧ A) ∨ (b = false ∧ B) := by
  cases b
  · exact .inr ⟨rfl, h⟩
  · exact .inl ⟨rfl, h⟩
theorem cond_true {b : Bool} {A : Prop} (h : cond b A False) : b = true ∧ A := by
  cases b
  · exact h.elim
  · exact ⟨rfl, h⟩

theorem kEq_eq {k k' : IntKind} (h : kEq k k' = true) : k = k' := by cases k <;> cases k' <;> first | rfl | (exact absurd h (by decide))

/-- What the frame's reading tells, the operands hold. -/
def EvOk (e : Env) (ρ : Operand → Value) : Prop := ∀ x v, ev e x = some v → ρ x = v

theorem evs_ok {e : Env} {ρ : Operand → Value} (h : EvOk e ρ) : ∀ {l : List Operand} {vs : List Value}, evs e l = some vs → l.map ρ = vs
  | [], vs, hv => by simp only [evs] at hv; cases hv; rfl
  | x :: l, vs, hv => by
    simp only [evs] at hv
    cases hx : ev e x with
    | none => simp [hx] at hv
    | some v =>
      cases hl : evs e l with
      | none => simp [hx, hl] at hv
      | some ws =>
        simp [hx, hl] at hv
        subst hv
        simp [h x v hx, evs_ok h hl]
theorem evps_ok {e : Env} {ρ : Operand → Value} (h : EvOk e ρ) : ∀ {l : List (Nat × Operand)} {vs : List (Nat × Value)}, evps e l = some vs → l.map (fun p => (p.1, ρ p.2)) = vs
  | [], vs, hv => by simp only [evps] at hv; cases hv; rfl
  | (i, x) :: l, vs, hv => by
    simp only [evps] at hv
    cases hx : ev e x with
    | none => simp [hx] at hv
    | some v =>
      cases hl : evps e l with
      | none => simp [hx, hl] at hv
      | some ws =>
        simp [hx, hl] at hv
        subst hv
        simp [h x v hx, evps_ok h hl]
theorem evo_ok {e : Env} {ρ : Operand → Value} (h : EvOk e ρ) {o : Option Operand} {v : Option Value} (hv : evo e o = some v) : o.map ρ = v := by
  cases o with
  | none => simp [evo] at hv; subst hv; rfl
  | some x =>
    simp only [evo] at hv
    cases hx : ev e x with
    | none => simp [hx] at hv
    | some u => simp [hx] at hv; subst hv; simp [h x u hx]

section
variable {P : Program} {T : Nat → Option TI}

theorem run_size {t : Nat} {ti : TI} (h : TIOk P t ti) (w : World) : (sizeOf t).run P w = .ok ti.size w := by
  obtain ⟨i, hi, hs, _, _⟩ := h.info
  simp [sizeOf, typeInfo, hi, hs]
theorem run_zero {t : Nat} {ti : TI} (h : TIOk P t ti) (w : World) : (zeroValue t).run P w = .ok ti.zero w := by
  obtain ⟨i, hi, _, _, hz⟩ := h.info
  simp [zeroValue, typeInfo, hi, hz]
theorem run_bytes {α : Type} {t : Nat} {ti : TI} (h : TIOk P t ti) (w : World) (f : TypeInfo → Sem α) (g : Nat → Sem α) (hfg : ∀ i : TypeInfo, f i = g i.bytes) :
    (typeInfo t >>= f).run P w = (g ti.bytes).run P w := by
  obtain ⟨i, hi, _, hb, _⟩ := h.info
  simp [typeInfo, hi, hfg, hb]
theorem run_und {t : Nat} {d : TypeDesc} (h : P.underlying t = some d) (w : World) : (underlying t).run P w = .ok d w := by
  simp [underlying, h]

theorem agg_desc {d : TD} {d' : TypeDesc} (h : TDOk d d') : d.isAgg = (match d' with | .struct _ => true | .array _ _ => true | _ => false) := by
  cases d <;> cases d' <;> first | rfl | exact (show False from h).elim

theorem run_agg {t : Nat} {ti : TI} (h : TIOk P t ti) (w : World) : (isAgg t).run P w = .ok ti.d.isAgg w := by
  obtain ⟨d, hd, hk⟩ := h.desc
  rw [agg_desc hk]
  simp only [isAgg, Sem.run_bind, run_und hd, Result.andThen_ok]
  cases d <;> simp

/-! ### Loads and stores -/

theorem ex_some {c : Ce} {K : Value → Prop} (h : c.ex K) : ∃ v, K v := by
  cases c <;> simp only [Ce.ex] at h
  case slice => obtain ⟨a, l, c, h⟩ := h; exact ⟨_, h⟩
  all_goals (obtain ⟨x, h⟩ := h; exact ⟨_, h⟩)

theorem ldC_some {c : Ce} {w : World} {a : Addr} {K : Value → Prop} (h : ldC c w a K) : ∃ v, w.cell? a = some v ∧ K v := ex_some h

theorem run_ld {w : World} {a : Addr} {v : Value} (h : w.cell? a = some v) : (load a).run P w = .ok v w := by simp [h]

theorem ldCs_some : ∀ {cs : List Ce} {a : Addr} {i : Nat} {w : World} {K : List Value → Prop}, ldCs cs a i w K →
    ∀ acc : Array Value, ∃ vs : List Value, (loadCellsFrom a i cs.length acc).run P w = .ok (acc ++ vs.toArray) w ∧ K vs
  | [], a, i, w, K, h, acc => ⟨[], by simp [loadCellsFrom], h⟩
  | c :: cs, a, i, w, K, h, acc => by
    obtain ⟨v, hv, h⟩ := ldC_some h
    obtain ⟨vs, hr, hk⟩ := ldCs_some h (acc.push v)
    refine ⟨v :: vs, ?_, hk⟩
    simp only [List.length_cons, loadCellsFrom, Sem.run_bind, run_ld hv, Result.andThen_ok, hr]
    simp

theorem ces_length (l : List Value) : (ces l).length = l.length := by induction l <;> simp_all [ces]

/-- A row of the table tells how many cells a value of the type has. -/
def TSize (T : Nat → Option TI) : Prop := ∀ t ti, T t = some ti → ti.d.isAgg = true → (vcells ti.zero).length = ti.size

theorem run_loadD {t : Nat} {ti : TI} (h : TIOk P t ti) (hz : ti.d.isAgg = true → (vcells ti.zero).length = ti.size) {p : Value} {w : World} {K : Value → Prop} (hl : loadD ti p w K) :
    ∃ a v, p = .pointer (some a) ∧ (loadVar t a).run P w = .ok v w ∧ K v := by
  cases p <;> simp only [loadD] at hl
  rename_i o
  obtain ⟨a, rfl, hl⟩ := optM_some hl
  rcases cond_or hl with ⟨hb, hl⟩ | ⟨hb, hl⟩
  · obtain ⟨vs, hr, hk⟩ := ldCs_some (P := P) hl #[]
    refine ⟨a, _, rfl, ?_, hk⟩
    rw [ces_length, hz hb] at hr
    simp [loadVar, run_agg h, hb, run_size h, loadCells, hr]
  · obtain ⟨v, hv, hk⟩ := ldC_some hl
    exact ⟨a, v, rfl, by simp [loadVar, run_agg h, hb, hv], hk⟩

theorem cellV_one {v : Value} (h : cellV v = true) : v.oneCell' = true := by cases v <;> simp_all [cellV, Value.oneCell']

theorem run_st {w : World} {a : Addr} {v : Value} (hv : cellV v = true) (h : okSt w a) : (store a v).run P w = .ok () (w.setCell a v) := by
  obtain ⟨⟨u, hu⟩, hf⟩ := h
  rw [run_store P w a v .plain (cellV_one hv)]
  simp [hu, hf]

theorem run_stCs : ∀ {vs : List Value} {a : Addr} {i : Nat} {w : World} {K : World → Prop}, stCs vs a i w K →
    ∃ w', (storeCells a vs i).run P w = .ok () w' ∧ K w'
  | [], a, i, w, K, h => ⟨w, by simp [storeCells], h⟩
  | v :: vs, a, i, w, K, h => by
    obtain ⟨hv, hok, h⟩ := cond_true h
    obtain ⟨w', hr, hk⟩ := run_stCs h
    exact ⟨w', by simp [storeCells, run_st hv hok, hr], hk⟩

theorem vcells_eq (v : Value) : vcells v = v.cells.toList := by cases v <;> rfl
theorem vcells_arr (v : Value) : (vcells v).toArray = v.cells := by rw [vcells_eq]

theorem run_storeD {t : Nat} {ti : TI} (h : TIOk P t ti) {p v : Value} {w : World} {K : World → Prop} (hl : storeD ti p v w K) :
    ∃ a w', p = .pointer (some a) ∧ (storeVar t a v).run P w = .ok () w' ∧ K w' := by
  cases p <;> simp only [storeD] at hl
  rename_i o
  obtain ⟨a, rfl, hl⟩ := optM_some hl
  obtain ⟨hb, hl⟩ := cond_true hl
  obtain ⟨w', hr, hk⟩ := run_stCs (P := P) hl
  have hs : v.cells.size = ti.size := by
    have := Nat.eq_of_beq_eq_true hb
    rw [vcells_eq] at this
    simpa using this
  refine ⟨a, w', rfl, ?_, hk⟩
  rw [vcells_eq] at hr
  simp [storeVar, run_size h, hs, hr]

/-! ### Rows of cells -/

theorem run_row {w : World} {a : Addr} {l : List Value} (h : rowAt w a l) : (loadCells a l.length).run P w = .ok l.toArray w := by
  have key : ∀ (n i : Nat) (acc : Array Value), i + n = l.length → (loadCellsFrom a i n acc).run P w = .ok (acc ++ (l.drop i).toArray) w := by
    intro n
    induction n with
    | zero => intro i acc hi; simp [loadCellsFrom, List.drop_of_length_le (show l.length ≤ i by omega)]
    | succ n ih =>
      intro i acc hi
      have hlt : i < l.length := by omega
      have hc := h i hlt
      rw [List.getElem?_eq_getElem hlt] at hc
      simp only [loadCellsFrom, Sem.run_bind, run_ld hc, Result.andThen_ok]
      rw [ih (i + 1) _ (by omega)]
      congr 1
      rw [List.drop_eq_getElem_cons hlt]
      simp
  have := key l.length 0 #[] (by omega)
  simpa [loadCells] using this

theorem run_setRow : ∀ {vs : List Value} {a : Addr} {i : Nat} {w : World}, stOk vs a i w → (storeCells a vs i).run P w = .ok () (setRow vs a i w)
  | [], a, i, w, _ => by simp [storeCells, setRow]
  | v :: vs, a, i, w, h => by
    obtain ⟨hv, hok, h⟩ := h
    simp [storeCells, run_st hv hok, run_setRow h, setRow]

end
end Go.Eng
