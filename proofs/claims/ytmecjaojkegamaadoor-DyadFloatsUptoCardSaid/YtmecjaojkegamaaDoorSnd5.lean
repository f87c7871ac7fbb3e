/-
  Each operation of the definitional reading is sound (continued): append, copy, min, max, calls; all operations in one theorem. No condition but that the table of types is the program's.
-/
import Derived.Test.YtmecjaojkegamaaDoorSnd4
set_option linter.unusedVariables false
set_option linter.unusedSimpArgs false
set_option linter.unnecessarySimpa false
set_option linter.unusedSectionVars false
namespace Go.Eng
open Go

section
variable {P : Program} {T : Nat → Option TI}

theorem run_firstCells {size n : Nat} {b : Option Addr} {l c : Nat} {w : World} {new : List Value} (hl : new.length = n * size) (h : rowOf w b new) :
    (Builtin.firstCells size n (.slice b l c)).run P w = .ok new.toArray w := by
  cases b with
  | none =>
    have : new = [] := h
    subst this
    rfl
  | some a =>
    have := run_row (P := P) (show rowAt w a new from h)
    simp only [Builtin.firstCells, ← hl]
    exact this

theorem growBy_le (L : Nat) : ∀ (k c : Nat), c ≤ L + (L + 768) / 4 → Builtin.growBy L k c ≤ L + (L + 768) / 4
  | 0, c, h => by simpa [Builtin.growBy] using h
  | k + 1, c, h => by
    simp only [Builtin.growBy]
    split
    · exact h
    · exact growBy_le L k _ (by omega)

theorem nextcap_le {need old : Nat} (h : old < need) : Builtin.nextslicecap need old ≤ 2 * need + 192 := by
  unfold Builtin.nextslicecap
  split
  · omega
  · split
    · omega
    · have := growBy_le need 4 old (by omega)
      omega

theorem run_append {t t' el : Nat} {te : TI} {d d' : TypeDesc} (hd : P.underlying t = some d) (hk : d = .slice el) (hd' : P.underlying t' = some d') (hk' : ∃ x, d' = .slice x) (hte : TIOk P el te)
    {ts : Array TypeId} (ht : ts[0]? = some t) (ht' : ts[1]? = some t') {a b : Option Addr} {len cap n c' ty : Nat} {w : World} {K : Value → World → Prop}
    (h : appM el te.size te.bytes (vcells te.zero).toArray a len cap b n w fun a l c w' => K (.slice a l c) w') : OutV P K (Builtin.append_ ts ty #[.slice a len cap, .slice b n c']) w := by
  subst hk
  obtain ⟨x', rfl⟩ := hk'
  obtain ⟨i, hi, hs, hb, hz⟩ := hte.info
  have hti : ∀ w, (typeInfo el).run P w = .ok i w := fun w => by simp [typeInfo, hi]
  obtain ⟨new, hnl, hnew, hin, hout⟩ := h
  have hfirst := fun w' (hw' : ∀ q, w'.cell? q = w.cell? q) => run_firstCells (P := P) (w := w') (size := te.size) (n := n) (b := b) (l := n) (c := c') hnl (by
    cases b with
    | none => exact hnew
    | some x => exact fun j hj => by rw [hw']; exact hnew j hj)
  by_cases hroom : len + n ≤ cap
  · have hin := hin hroom
    cases a with
    | none =>
      refine ⟨_, w, ?_, hin⟩
      have hf := hfirst w (fun _ => rfl)
      simp [Builtin.append_, ht, ht', run_und hd, run_und hd', run_size hte, Builtin.lenOf, hroom, hf]
    | some x =>
      obtain ⟨hok, hin⟩ := hin
      refine ⟨_, _, ?_, hin⟩
      have hf := hfirst w (fun _ => rfl)
      have hst := run_setRow (P := P) hok
      simp [Builtin.append_, ht, ht', run_und hd, run_und hd', run_size hte, Builtin.lenOf, hroom, hf, hst]
  · have hlt : cap < len + n := by omega
    obtain ⟨h1, h2, h3, old, hol, hold, hout⟩ := hout hlt
    have hcap : ¬ ((Builtin.nextslicecap (len + n) cap) * i.bytes > 2 ^ 48) := by
      have := nextcap_le hlt
      rw [hb]
      have h4 : Builtin.nextslicecap (len + n) cap * te.bytes ≤ (2 * (len + n) + 192) * te.bytes := Nat.mul_le_mul_right _ this
      have h5 : (2 * (len + n) + 192) * te.bytes = 2 * ((len + n) * te.bytes) + 192 * te.bytes := by rw [Nat.add_mul, Nat.mul_assoc]
      omega
    have hmax : ¬ ((9223372036854775807 : Int) < (len : Int) + (n : Int) ∧ i.bytes = 0) := by
      intro hc
      have := hc.1
      omega
    have hoc : (Question.appendCap (len + n) cap el).cut (w.tape w.drawn (.appendCap (len + n) cap el)) ≥ len + n := by simp [Question.cut]
    refine ⟨_, _, ?_, hout _ 1 hoc⟩
    have hf := hfirst w.drew (fun _ => rfl)
    have hfo := run_firstCells (P := P) (w := w.drew) (size := te.size) (n := len) (b := a) (l := len) (c := cap) hol (by
      cases a with
      | none => exact hold
      | some x => exact fun j hj => hold j hj)
    have hcap' : ¬ (2 ^ 48 < Builtin.nextslicecap (len + n) cap * i.bytes) := hcap
    simp [Builtin.append_, ht, ht', run_und hd, run_und hd', run_size hte, Builtin.lenOf, hroom, hti, hmax, hcap', Question.forced, hf, hfo, run_zero hte, newRow, Builtin.zeroCells, zrow, vcells_eq, nxt]
    have e : ∀ r, old.toArray ++ (new.toArray ++ r) = (old ++ new).toArray ++ r := fun r => by rw [← Array.append_assoc]; simp
    rw [e]; rfl

theorem run_copy {t el : Nat} {te : TI} {d : TypeDesc} (hd : P.underlying t = some d) (hk : d = .slice el) (hte : TIOk P el te)
    {ts : Array TypeId} (ht : ts[0]? = some t) {a b : Option Addr} {len cap n c' ty : Nat} {w : World} {K : Value → World → Prop}
    (h : copM te.size a len b n w fun w' => K (.int .i64 (min n len : Nat)) w') : OutV P K (Builtin.copy_ ts ty #[.slice a len cap, .slice b n c']) w := by
  subst hk
  obtain ⟨new, hl, hnew, h⟩ := h
  have hf : (Builtin.firstCells te.size (Nat.min n len) (.slice b n c')).run P w = .ok new.toArray w := run_firstCells hl hnew
  cases a with
  | none =>
    refine ⟨_, w, ?_, h⟩
    simp [Builtin.copy_, ht, run_und hd, run_size hte, Builtin.lenOf, hf, goInt]
  | some x =>
    obtain ⟨hok, h⟩ := h
    refine ⟨_, _, ?_, h⟩
    have hst := run_setRow (P := P) hok
    simp [Builtin.copy_, ht, run_und hd, run_size hte, Builtin.lenOf, hf, hst, goInt]

theorem mm2_ok {isMax : Bool} {x y : Value} {w : World} {K : Value → World → Prop} (h : mm2 isMax x y w K) : OutV P K (cond isMax (Builtin.max2 x y) (Builtin.min2 x y)) w := by
  unfold mm2 at h
  split at h
  · obtain ⟨hk, h⟩ := cond_true h
    cases isMax
    · exact ⟨_, w, by simp only [cond, Builtin.min2, Sem.run_pure], h⟩
    · exact ⟨_, w, by simp only [cond, Builtin.max2, Sem.run_pure], h⟩
  · rename_i a b
    unfold fmaxD at h
    split at h
    · rename_i ho
      cases isMax
      · refine ⟨_, w.drewN 1, ?_, h (Question.cut (.nanMinMax .f64 false a b) (w.tape w.drawn (.nanMinMax .f64 false a b))) 1 (nanCut _)⟩
        have ho' : FloatKind.f64.format.order a b = none := ho
        simp [Builtin.min2, ho', Question.forced]; rfl
      · refine ⟨_, w.drewN 1, ?_, h (Question.cut (.nanMinMax .f64 true a b) (w.tape w.drawn (.nanMinMax .f64 true a b))) 1 (nanCut _)⟩
        have ho' : FloatKind.f64.format.order a b = none := ho
        simp [Builtin.max2, ho', Question.forced]; rfl
    · rename_i ho
      have ho' : FloatKind.f64.format.order a b = some .lt := ho
      cases isMax
      · exact ⟨_, w, by simp [Builtin.min2, ho'], h⟩
      · exact ⟨_, w, by simp [Builtin.max2, ho'], h⟩
    · rename_i ho
      have ho' : FloatKind.f64.format.order a b = some .gt := ho
      cases isMax
      · exact ⟨_, w, by simp [Builtin.min2, ho'], h⟩
      · exact ⟨_, w, by simp [Builtin.max2, ho'], h⟩
    · rename_i ho
      have ho' : FloatKind.f64.format.order a b = some .eq := ho
      have hd : FloatKind.f64.decode a = Ieee.double.read a := rfl
      cases isMax
      · refine ⟨_, w, ?_, h⟩
        simp only [cond, Builtin.min2, ho', Sem.run_pure, hd]
        cases (Ieee.double.read a).neg <;> rfl
      · refine ⟨_, w, ?_, h⟩
        simp only [cond, Builtin.max2, ho', Sem.run_pure, hd]
        cases (Ieee.double.read a).neg <;> rfl
  · exact h.elim

theorem mmD_ok {isMax : Bool} : ∀ {ys : List Value} {x : Value} {w : World} {K : Value → World → Prop}, mmD isMax x ys w K → OutV P K (ys.foldlM (cond isMax Builtin.max2 Builtin.min2) x) w
  | [], x, w, K, h => ⟨x, w, rfl, h⟩
  | y :: ys, x, w, K, h => by
    obtain ⟨v, w1, h1, h2⟩ := mm2_ok (P := P) h
    obtain ⟨v2, w2, h3, h4⟩ := mmD_ok h2
    refine ⟨v2, w2, ?_, h4⟩
    have h1' : ((cond isMax Builtin.max2 Builtin.min2) x y).run P w = .ok v w1 := by cases isMax <;> exact h1
    simp only [List.foldlM_cons, Sem.run_bind, h1', Result.andThen_ok, h3]

theorem builtinD_ok (hT : TOk P T) {b : Builtin} {ts : Array TypeId} {ty : Nat} {cs : Array Bool} {args : List Value} {w : World} {K : Value → World → Prop} (h : builtinD T b ts.toList args w K) :
    Out P K ((builtin b ts ty cs args.toArray).run P w) := by
  unfold builtinD at h
  split at h
  · -- len of a slice
    obtain ⟨t, ht, h⟩ := bindL_some h
    obtain ⟨ti, hti, h⟩ := bindL_some h
    rw [nth_eq] at ht
    have ht' : ts[0]? = some t := by simpa using ht
    obtain ⟨d, hd, hk⟩ := (hT _ _ hti).desc
    split at h
    · rename_i e he
      rw [he] at hk
      cases d <;> (try exact hk.elim)
      exact out_of_v ⟨_, w, by simp [Builtin.len_, ht', run_und hd, goInt], h⟩
    · exact h.elim
  · -- len of a string
    obtain ⟨t, ht, h⟩ := bindL_some h
    obtain ⟨ti, hti, h⟩ := bindL_some h
    rw [nth_eq] at ht
    have ht' : ts[0]? = some t := by simpa using ht
    obtain ⟨d, hd, hk⟩ := (hT _ _ hti).desc
    split at h
    · rename_i he
      rw [he] at hk
      cases d <;> (try exact hk.elim)
      exact out_of_v ⟨_, w, by simp [Builtin.len_, ht', run_und hd, goInt], h⟩
    · exact h.elim
  · -- len of an array behind a pointer
    obtain ⟨t, ht, h⟩ := bindL_some h
    obtain ⟨ti, hti, h⟩ := bindL_some h
    rw [nth_eq] at ht
    have ht' : ts[0]? = some t := by simpa using ht
    obtain ⟨d, hd, hk⟩ := (hT _ _ hti).desc
    split at h
    · rename_i e he
      rw [he] at hk
      cases d <;> (try exact hk.elim)
      cases hk
      obtain ⟨te, hte, h⟩ := bindL_some h
      obtain ⟨d2, hd2, hk2⟩ := (hT _ _ hte).desc
      split at h
      · rename_i n e2 he2
        rw [he2] at hk2
        cases d2 <;> (try exact hk2.elim)
        obtain ⟨hn, _⟩ := hk2
        subst hn
        exact out_of_v ⟨_, w, by simp [Builtin.len_, ht', run_und hd, run_und hd2, goInt], h⟩
      · exact h.elim
    · exact h.elim
  · -- len of an array
    obtain ⟨t, ht, h⟩ := bindL_some h
    obtain ⟨ti, hti, h⟩ := bindL_some h
    rw [nth_eq] at ht
    have ht' : ts[0]? = some t := by simpa using ht
    obtain ⟨d, hd, hk⟩ := (hT _ _ hti).desc
    split at h
    · rename_i n e he
      rw [he] at hk
      cases d <;> (try exact hk.elim)
      obtain ⟨hn, _⟩ := hk
      subst hn
      exact out_of_v ⟨_, w, by simp [Builtin.len_, ht', run_und hd, goInt], h⟩
    · exact h.elim
  · -- cap
    obtain ⟨t, ht, h⟩ := bindL_some h
    obtain ⟨ti, hti, h⟩ := bindL_some h
    rw [nth_eq] at ht
    have ht' : ts[0]? = some t := by simpa using ht
    obtain ⟨d, hd, hk⟩ := (hT _ _ hti).desc
    split at h
    · rename_i e he
      rw [he] at hk
      cases d <;> (try exact hk.elim)
      exact out_of_v ⟨_, w, by simp [Builtin.cap_, ht', run_und hd, goInt], h⟩
    · exact h.elim
  · -- append
    obtain ⟨t, ht, h⟩ := bindL_some h
    obtain ⟨ti, hti, h⟩ := bindL_some h
    rw [nth_eq] at ht
    have ht' : ts[0]? = some t := by simpa using ht
    obtain ⟨d, hd, hk⟩ := (hT _ _ hti).desc
    split at h
    · rename_i e he
      rw [he] at hk
      cases d <;> (try exact hk.elim)
      cases hk
      obtain ⟨t2, ht2, h⟩ := bindL_some h
      obtain ⟨ti2, hti2, h⟩ := bindL_some h
      rw [nth_eq] at ht2
      have ht2' : ts[1]? = some t2 := by simpa using ht2
      obtain ⟨d2, hd2, hk2⟩ := (hT _ _ hti2).desc
      split at h
      · rename_i e2 he2
        rw [he2] at hk2
        cases d2 <;> (try exact hk2.elim)
        obtain ⟨te, hte, h⟩ := bindL_some h
        exact out_of_v (run_append hd rfl hd2 ⟨_, rfl⟩ (hT _ _ hte) ht' ht2' h)
      · exact h.elim
    · exact h.elim
  · -- copy
    obtain ⟨t, ht, h⟩ := bindL_some h
    obtain ⟨ti, hti, h⟩ := bindL_some h
    rw [nth_eq] at ht
    have ht' : ts[0]? = some t := by simpa using ht
    obtain ⟨d, hd, hk⟩ := (hT _ _ hti).desc
    split at h
    · rename_i e he
      rw [he] at hk
      cases d <;> (try exact hk.elim)
      cases hk
      obtain ⟨te, hte, h⟩ := bindL_some h
      exact out_of_v (run_copy hd rfl (hT _ _ hte) ht' h)
    · exact h.elim
  · -- max
    refine out_of_v ?_
    obtain ⟨v, w', h1, h2⟩ := mmD_ok (P := P) h
    exact ⟨v, w', by simpa [Builtin.max_] using h1, h2⟩
  · -- min
    refine out_of_v ?_
    obtain ⟨v, w', h1, h2⟩ := mmD_ok (P := P) h
    exact ⟨v, w', by simpa [Builtin.min_] using h1, h2⟩
  · exact h.elim

end
end Go.Eng
