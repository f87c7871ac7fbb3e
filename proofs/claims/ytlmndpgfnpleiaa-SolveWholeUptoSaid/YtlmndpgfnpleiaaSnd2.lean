/-
  Each operation of the definitional reading is sound (continued): the operations one by one. No condition but that the table of types is the program's.
-/
import Derived.Test.YtlmndpgfnpleiaaSnd
import Derived.Laws.FloatArith
import Derived.Laws.Append
set_option linter.unusedVariables false
set_option linter.unusedSimpArgs false
set_option linter.unnecessarySimpa false
set_option linter.unusedSectionVars false
namespace Go.Eng
open Go

section
variable {P : Program} {T : Nat → Option TI}

theorem wrap_wrap (k : IntKind) (n : Int) : k.wrap (k.wrap n) = k.wrap n := by
  cases k <;> simp only [IntKind.wrap, IntKind.bits, IntKind.signed] <;> simp <;> omega

/-- The value of an operation: what 'execOp' wraps. -/
def OutV (P : Program) (K : Value → World → Prop) (s : Sem Value) (w : World) : Prop := ∃ v w', s.run P w = .ok v w' ∧ K v w'

theorem OutV.mk {K : Value → World → Prop} {s : Sem Value} {w : World} {v : Value} {w' : World} (h : s.run P w = .ok v w') (hk : K v w') : OutV P K s w := ⟨v, w', h, hk⟩

theorem out_of_v {K : Value → World → Prop} {s : Sem Value} {w : World} (h : OutV P K s w) : Out P K ((do pure (Next.value (← s)) : Sem Next).run P w) := by
  obtain ⟨v, w', hr, hk⟩ := h
  simp only [Sem.run_bind, hr, Result.andThen_ok, Sem.run_pure]
  exact hk

theorem fres_ok {op : BinOp} {a b : Nat} {o : Option Nat} {w : World} {K : Value → World → Prop} (hop : ∀ w : World, (Op.floatArith op .f64 a b).run P w = (match o with
      | some r => .ok (.float .f64 r) w
      | none => (do pure (Value.float .f64 (← choose (.nanBits .f64 a b))) : Sem Value).run P w)) (ho : ∀ r, o = some r → isNaN r = false) (h : FRes (o.getD qnan) w K) : OutV P K (Op.floatArith op .f64 a b) w := by
  cases o with
  | some r =>
    exact ⟨_, w, by rw [hop], h r 0 (nf_of_not (ho r rfl))⟩
  | none =>
    refine ⟨_, w.drewN 1, ?_, h _ 1 (nf_of_nan (nanCut (w.tape w.drawn (.nanBits .f64 a b))))⟩
    rw [hop]
    simp only [Sem.run_bind, run_choose, Question.forced, Bool.false_eq_true, if_false, Result.andThen_ok, Sem.run_pure]
    rfl

theorem binFlt_ok {op : BinOp} {a b : Nat} {w : World} {K : Value → World → Prop} (t : Nat) (h : binFlt op a b w K) : OutV P K (binOp op t (.float .f64 a) (.float .f64 b)) w := by
  cases op <;> simp only [binFlt] at h <;> (try exact h.elim)
  case add =>
    have e : binOp .add t (.float .f64 a) (.float .f64 b) = Op.floatArith .add .f64 a b := by simp [binOp]
    rw [e]
    exact fres_ok (o := Ieee.double.add a b) (fun w => by unfold Op.floatArith; cases h2 : Ieee.double.add a b <;> simp [FloatKind.format, h2]) (fun r => add_notNaN) h
  case sub =>
    have e : binOp .sub t (.float .f64 a) (.float .f64 b) = Op.floatArith .sub .f64 a b := by simp [binOp]
    rw [e]
    exact fres_ok (o := Ieee.double.sub a b) (fun w => by unfold Op.floatArith; cases h2 : Ieee.double.sub a b <;> simp [FloatKind.format, h2]) (fun r => sub_notNaN) h
  case mul =>
    have e : binOp .mul t (.float .f64 a) (.float .f64 b) = Op.floatArith .mul .f64 a b := by simp [binOp]
    rw [e]
    exact fres_ok (o := Ieee.double.mul a b) (fun w => by unfold Op.floatArith; cases h2 : Ieee.double.mul a b <;> simp [FloatKind.format, h2]) (fun r => mul_notNaN) h
  case quo =>
    have e : binOp .quo t (.float .f64 a) (.float .f64 b) = Op.floatArith .quo .f64 a b := by simp [binOp]
    rw [e]
    exact fres_ok (o := Ieee.double.div a b) (fun w => by unfold Op.floatArith; cases h2 : Ieee.double.div a b <;> simp [FloatKind.format, h2]) (fun r => div_notNaN) h
  all_goals exact ⟨_, w, by simp [binOp, Op.floatCmp, FloatKind.format, bne]; rfl, h⟩

theorem outv_pure {K : Value → World → Prop} {v : Value} {w : World} (h : K v w) : OutV P K (pure v) w := ⟨v, w, rfl, h⟩

theorem binInt_ok {op : BinOp} {k : IntKind} {a b : Int} {w : World} {K : Value → World → Prop} (t : Nat) (hs : op ≠ .shl ∧ op ≠ .shr) (h : binInt op k a b fun v => K v w) :
    OutV P K (binOp op t (.int k a) (.int k b)) w := by
  cases op <;> simp only [binInt] at h <;> (try exact h.elim) <;> (try (exact absurd rfl hs.1)) <;> (try (exact absurd rfl hs.2))
  case quo => obtain ⟨hb, h⟩ := h; exact ⟨_, w, by simp [binOp, Op.intDiv, hb], h⟩
  case rem => obtain ⟨hb, h⟩ := h; exact ⟨_, w, by simp [binOp, Op.intDiv, hb], h⟩
  all_goals exact ⟨_, w, by simp only [binOp, ne_eq, not_true_eq_false, if_false, Op.intArith, Op.intBits, Op.intCmp, Sem.run_pure], h⟩

section
variable {t : Nat} {d : TypeDesc} (hd : P.underlying t = some d)
include hd
theorem eq_bool (e : d = .bool) (n : Nat) (a b : Bool) (w : World) : (Op.equalIn (n + 1) t (.bool a) (.bool b)).run P w = .ok (a == b) w := by
  subst e; simp [Op.equalIn, run_und hd]
theorem eq_ptr {x : Nat} (e : d = .pointer x) (n : Nat) (p : Option Addr) (w : World) : (Op.equalIn (n + 1) t (.pointer p) (.pointer none)).run P w = .ok p.isNone w := by
  subst e; cases p <;> simp [Op.equalIn, run_und hd]
theorem eq_sl {x : Nat} (e : d = .slice x) (n : Nat) (p : Option Addr) (l c l' c' : Nat) (w : World) : (Op.equalIn (n + 1) t (.slice p l c) (.slice none l' c')).run P w = .ok p.isNone w := by
  subst e; cases p <;> simp [Op.equalIn, run_und hd]
end
theorem equal_in (t : Nat) (x y : Value) : Op.equal t x y = Op.equalIn (9999 + 1) t x y := rfl

theorem binD_ok {t : Nat} {ti : TI} (ht : TIOk P t ti) {op : BinOp} {x y : Value} {w : World} {K : Value → World → Prop} (h : binD ti op x y w K) : OutV P K (binOp op t x y) w := by
  obtain ⟨d, hd, hk⟩ := ht.desc
  unfold binD at h
  split at h
  · -- ints
    rename_i k a k' b
    split at h
    · obtain ⟨h0, h⟩ := h
      exact ⟨_, w, by simp only [binOp, Op.shift]; rw [if_neg (by omega)]; rfl, h⟩
    · obtain ⟨h0, h⟩ := h
      exact ⟨_, w, by simp only [binOp, Op.shift]; rw [if_neg (by omega)]; rfl, h⟩
    · rename_i op' h1 h2
      obtain ⟨hk', h'⟩ := Eng.cond_true h
      obtain rfl := kEq_eq hk'
      exact binInt_ok t ⟨fun e => h1 e, fun e => h2 e⟩ h'
  · split at h
    · exact binFlt_ok t h
    · exact h.elim
  · -- bools
    split at h
    · rename_i hb
      rw [hb] at hk
      cases d <;> (try exact hk.elim)
      split at h
      · exact ⟨_, w, by simp only [binOp, equal_in, Sem.run_bind, eq_bool hd rfl, Result.andThen_ok, Sem.run_pure], h⟩
      · exact ⟨_, w, by simp only [binOp, equal_in, Sem.run_bind, eq_bool hd rfl, Result.andThen_ok, Sem.run_pure], h⟩
      · exact h.elim
    · exact h.elim
  · -- pointers
    rename_i p
    split at h
    · rename_i hb
      rw [hb] at hk
      cases d <;> (try exact hk.elim)
      split at h
      · exact ⟨.bool p.isNone, w, by simp only [binOp, equal_in, Sem.run_bind, eq_ptr hd rfl, Result.andThen_ok, Sem.run_pure], h⟩
      · exact ⟨.bool (!p.isNone), w, by simp only [binOp, equal_in, Sem.run_bind, eq_ptr hd rfl, Result.andThen_ok, Sem.run_pure], h⟩
      · exact h.elim
    · exact h.elim
  · -- slices
    rename_i p _ _ _ _
    split at h
    · rename_i hb
      rw [hb] at hk
      cases d <;> (try exact hk.elim)
      split at h
      · exact ⟨.bool p.isNone, w, by simp only [binOp, equal_in, Sem.run_bind, eq_sl hd rfl, Result.andThen_ok, Sem.run_pure], h⟩
      · exact ⟨.bool (!p.isNone), w, by simp only [binOp, equal_in, Sem.run_bind, eq_sl hd rfl, Result.andThen_ok, Sem.run_pure], h⟩
      · exact h.elim
    · exact h.elim
  · -- strings
    split at h
    · exact ⟨_, w, by simp [binOp, Op.stringOp], h⟩
    · exact ⟨_, w, by simp [binOp, Op.stringOp], h⟩
    · exact h.elim
  · exact h.elim

/-- The guard ahead of '==' lets by what 'binD' takes. -/
theorem eqGuard_ok {ti : TI} {op : BinOp} {x y : Value} {w : World} {K : Value → World → Prop} (h : binD ti op x y w K) (t : Nat) (ox oy : Operand) (w' : World) : (eqGuard op t ox oy x y).run P w' = .ok () w' := by
  have hc : ∀ {x y : Value}, binD ti op x y w K → (match x, y with | .nilIface, .nilIface => False | .agg _, .agg _ => False | _, _ => True) := by
    intro x y h
    cases x <;> cases y <;> (first | trivial | exact h)
  have hc := hc h
  cases op <;> (try rfl)
  all_goals (cases x <;> cases y <;> (first | rfl | exact hc.elim))

theorem unD_ok {op : UnOp} {x : Value} {w : World} {K : Value → World → Prop} (h : unD op x fun v => K v w) : OutV P K (Op.unary op x) w := by
  unfold unD at h
  split at h
  · exact ⟨_, w, by simp only [Op.unary, Op.intArith, Sem.run_pure], h⟩
  · rename_i k n
    refine ⟨.int k (k.wrap (BitVec.ofInt k.bits (cond k.signed (-1) k.max) ^^^ BitVec.ofInt k.bits n).toNat), w, ?_, h⟩
    simp only [Op.unary, Op.intBits, Sem.run_pure]
    cases k.signed <;> rfl
  · exact ⟨_, w, rfl, h⟩
  · exact ⟨_, w, rfl, h⟩
  · exact h.elim

theorem convD_ok {s d : Nat} {ts td : TI} (hs : TIOk P s ts) (hd : TIOk P d td) {x : Value} {w : World} {K : Value → World → Prop} (h : convD ts.d td.d x w K) : OutV P K (convert s d x) w := by
  obtain ⟨d1, hd1, hk1⟩ := hs.desc
  obtain ⟨d2, hd2, hk2⟩ := hd.desc
  unfold convD at h
  split at h
  · rename_i k' k k1 n e1 e2
    rw [e1] at hk1; rw [e2] at hk2
    cases d1 <;> (try exact hk1.elim)
    cases d2 <;> (try exact hk2.elim)
    cases hk2
    exact ⟨_, w, by simp [convert, run_und hd1, run_und hd2, Conv.intToInt], h⟩
  · rename_i k' k1 n e1 e2
    rw [e1] at hk1; rw [e2] at hk2
    cases d1 <;> (try exact hk1.elim)
    cases d2 <;> (try exact hk2.elim)
    cases hk2
    exact ⟨_, w, by simp [convert, run_und hd1, run_und hd2, Conv.intToFloat], h⟩
  · rename_i k b e1 e2
    rw [e1] at hk1; rw [e2] at hk2
    cases d1 <;> (try exact hk1.elim)
    cases d2 <;> (try exact hk2.elim)
    cases hk2
    obtain ⟨h1, h2⟩ := h
    cases hf : f2i b k with
    | some n =>
      refine ⟨_, w, ?_, h1 n hf⟩
      unfold f2i at hf
      simp only [convert, Sem.run_bind, run_und hd1, run_und hd2, Result.andThen_ok, Conv.floatToInt, FloatKind.decode, FloatKind.format]
      split at hf
      · rename_i m hm
        split at hf
        · rename_i hb; cases hf; simp [hm, hb]
        · cases hf
      · cases hf
    | none =>
      refine ⟨.int k (k.wrap (Question.cut (.floatToInt .f64 b k) (w.tape w.drawn (.floatToInt .f64 b k)))), w.drewN 1, ?_, h2 hf _ 1 ?_⟩
      · unfold f2i at hf
        simp only [convert, Sem.run_bind, run_und hd1, run_und hd2, Result.andThen_ok, Conv.floatToInt, FloatKind.decode, FloatKind.format]
        split at hf
        · rename_i m hm
          split at hf
          · cases hf
          · rename_i hb
            simp only [hm]
            rw [if_neg hb]
            simp [Question.forced]; rfl
        · rename_i hm
          simp [hm, Question.forced]; rfl
      · exact wrap_wrap k _
  · rename_i b e1 e2
    rw [e1] at hk1; rw [e2] at hk2
    cases d1 <;> (try exact hk1.elim)
    cases d2 <;> (try exact hk2.elim)
    cases hk2
    exact ⟨_, w, by simp [convert, run_und hd1, run_und hd2, Conv.floatToFloat], h⟩
  · exact h.elim

end
end Go.Eng
