/-
  How the table of types of a program is laid beside the definitional reading; no condition.
-/
import Derived.Test.YtmecjaojkegamaaGreatDoorSnd7
set_option linter.unusedVariables false
set_option linter.unusedSimpArgs false
set_option linter.unnecessarySimpa false
set_option linter.unusedSectionVars false
namespace Go.Eng
open Go

/-- Is a row's kind the program's? -/
def tdB : TD → TypeDesc → Bool
  | .bool, .bool => true
  | .int k, .int k' => kEq k k'
  | .float .f64, .float .f64 => true
  | .float .f32, .float .f32 => true
  | .string, .string => true
  | .ptr e, .pointer e' => Nat.beq e e'
  | .slice e, .slice e' => Nat.beq e e'
  | .array n e, .array n' e' => cond (Nat.beq n n') (Nat.beq e e') false
  | .struct fs, .struct fields => fs == fields.toList.map fun f => (f.type, f.offset)
  | .tuple ts, .tuple es => ts == es.toList
  | .func, .func _ _ _ => true
  | .other, d => match d with | .struct _ => false | .array _ _ => false | _ => true
  | _, _ => false

theorem tdB_ok {td : TD} {d : TypeDesc} (h : tdB td d = true) : TDOk td d := by
  cases td <;> cases d <;> simp only [tdB] at h <;> (try (cases h; done)) <;> (try exact True.intro)
  case int.int k k' => exact kEq_eq h
  case float.float k k' => cases k <;> cases k' <;> first | rfl | (cases h)
  case ptr.pointer => exact Nat.eq_of_beq_eq_true h
  case slice.slice => exact Nat.eq_of_beq_eq_true h
  case array.array => obtain ⟨h1, h2⟩ := cond3 h; exact ⟨Nat.eq_of_beq_eq_true h1, Nat.eq_of_beq_eq_true h2⟩
  case struct.struct => exact eq_of_beq h
  case tuple.tuple => exact eq_of_beq h

theorem tiOk_mk {P : Program} {t : Nat} {ti : TI} {i : TypeInfo} {d : TypeDesc} (h1 : P.info? t = some i) (h2 : i.size = ti.size) (h3 : i.bytes = ti.bytes) (h4 : i.zero = some ti.zero) (h5 : P.underlying t = some d) (h6 : tdB ti.d d = true) : TIOk P t ti :=
  ⟨⟨i, h1, h2, h3, h4⟩, ⟨d, h5, tdB_ok h6⟩⟩

/-- All rows. -/
def rowsOk (P : Program) : List (Nat × TI) → Prop
  | [] => True
  | p :: l => TIOk P p.1 p.2 ∧ rowsOk P l

theorem tok_of_rows {P : Program} : ∀ {l : List (Nat × TI)}, rowsOk P l → TOk P (look l)
  | [], _, t, ti, h => by simp [look] at h
  | p :: l, hr, t, ti, h => by
    simp only [look] at h
    cases hb : Nat.beq p.1 t with
    | true =>
      rw [hb] at h
      have := Nat.eq_of_beq_eq_true hb
      subst this
      cases h
      exact hr.1
    | false => rw [hb] at h; exact tok_of_rows hr.2 t ti h

def sizesB : List (Nat × TI) → Bool
  | [] => true
  | p :: l => cond (cond p.2.d.isAgg (Nat.beq (vcells p.2.zero).length p.2.size) true) (sizesB l) false

theorem tsize_of {l : List (Nat × TI)} (h : sizesB l = true) : TSize (look l) := by
  induction l with
  | nil => intro t ti h; simp [look] at h
  | cons p l ih =>
    intro t ti hl ha
    obtain ⟨h1, h2⟩ := cond3 h
    simp only [look] at hl
    cases hb : Nat.beq p.1 t with
    | true =>
      rw [hb] at hl
      cases hl
      rw [ha] at h1
      exact Nat.eq_of_beq_eq_true h1
    | false => rw [hb] at hl; exact ih h2 t ti hl ha

/-- A function of Go's library that the model carries out itself. -/
theorem ext_ok {P : Program} {f : FuncId} {fn : Func} {g : Array Value → Sem Value} {args : Array Value} {v : Value} {w : World} {K : Value → World → Prop} (hf : P.funcs[f]? = some fn) (hn : (fn.name == "runtime.NumGoroutine") = false)
    (hb : fn.body.isNone = true) (h1 : (Extern.findNext fn).isNone = true) (h2 : Extern.find fn = some g) (hg : g args = pure v) (hk : K v w) : CallsX P f args w K := by
  unfold CallsX callFunc
  have h1' : Extern.findNext fn = none := by
    cases hh : Extern.findNext fn with
    | none => rfl
    | some x => rw [hh] at h1; cases h1
  simp only [Sem.run_bind, run_program, Result.andThen_ok, hf, hn, hb, Bool.false_eq_true, if_false, if_true, run_mark, h1', h2, hg, Sem.run_pure]
  exact hk

end Go.Eng
