/-
  A region of operations, in the order of the text or in an order that Go leaves open, read definitionally: sound. No condition but that the table of types is the program's.
-/
import Derived.Test.YtmecjaojkegamaaDoorRegs
set_option linter.unusedVariables false
set_option linter.unusedSimpArgs false
set_option linter.unnecessarySimpa false
set_option linter.unusedSectionVars false
namespace Go.Eng
open Go

/-- What the reading knows of a frame holds of it. -/
structure Rel (n : Nat) (e : Env) (a : Act) : Prop where
  size : a.tmps.size = n
  defers : a.defers = []
  vals : ∀ t v, e t = some v → a.tmps.getD t undef = v

/-- Outside p the frame is as it was. -/
def Fr (p : Nat → Prop) (a a' : Act) : Prop := ∀ t, ¬ p t → a'.tmps.getD t undef = a.tmps.getD t undef

theorem Fr.refl (p : Nat → Prop) (a : Act) : Fr p a a := fun _ _ => rfl
theorem Fr.trans {p : Nat → Prop} {a b c : Act} (h : Fr p a b) (k : Fr p b c) : Fr p a c := fun t ht => (k t ht).trans (h t ht)
theorem Fr.mono {p q : Nat → Prop} {a b : Act} (h : Fr p a b) (hp : ∀ t, p t → q t) : Fr q a b := fun t ht => h t fun hh => ht (hp t hh)

theorem Rel.ev {n : Nat} {e : Env} {a : Act} (h : Rel n e a) : EvOk e a.eval := by
  intro x v hx
  cases x with
  | tmp t => exact h.vals t v hx
  | const u => simp [Eng.ev] at hx; subst hx; rfl
  | global g => simp [Eng.ev] at hx; subst hx; rfl
  | func f => simp [Eng.ev] at hx; subst hx; rfl

theorem Rel.upd_same {n : Nat} {e : Env} {a : Act} (h : Rel n e a) {t : Nat} {v : Value} (ht : a.tmps.getD t undef = v) : Rel n (upd e t v) a := by
  refine ⟨h.size, h.defers, fun t' v' h' => ?_⟩
  unfold upd at h'
  cases hb : Nat.beq t' t with
  | true =>
    rw [hb] at h'
    have := Nat.eq_of_beq_eq_true hb
    subst this
    simp at h'
    rw [ht, h']
  | false => rw [hb] at h'; exact h.vals t' v' h'

theorem Rel.put {n : Nat} {e : Env} {a : Act} (h : Rel n e a) {d : Nat} (hd : d < n) (v : Value) : Rel n (upd e d v) (a.put (some d) v) := by
  refine ⟨by simp [Act.put, h.size], h.defers, fun t v' h' => ?_⟩
  unfold upd at h'
  have hs := h.size
  cases hb : Nat.beq t d with
  | true =>
    rw [hb] at h'
    have := Nat.eq_of_beq_eq_true hb
    subst this
    simp at h'
    have hlt : t < a.tmps.size := by omega
    simp [Act.put, hlt, h']
  | false =>
    rw [hb] at h'
    have hne : d ≠ t := fun e => by subst e; simp at hb
    have := h.vals t v' h'
    simpa [Act.put, Array.getElem?_setIfInBounds_ne hne] using this

theorem Fr.put {p : Nat → Prop} {a : Act} {d : Option Nat} (h : ∀ t, d = some t → p t) (v : Value) : Fr p a (a.put d v) := by
  intro t ht
  cases d with
  | none => rfl
  | some d =>
    have hne : d ≠ t := fun e => ht (h t (by rw [e]))
    simp [Act.put, Array.getElem?_setIfInBounds_ne hne]

section
variable {P : Program} {T : Nat → Option TI} {n : Nat} {Q : Exit → Act → World → Prop}

theorem setD_ok {e : Env} {a : Act} (h : Rel n e a) {d : Option Nat} {v : Value} {K : Env → Prop} (hk : setD n e d v K) : ∃ e', Rel n e' (a.put d v) ∧ K e' := by
  cases d with
  | none => exact ⟨e, h, hk⟩
  | some d =>
    obtain ⟨hb, hk⟩ := cond_true hk
    have hd : d < n := by
      have : d + 1 ≤ n := by simpa [Nat.blt] using hb
      omega
    exact ⟨_, h.put hd v, hk⟩

/-- From an operation's outcome to the model's own rule. -/
theorem wp_of_out {o : Oper} {a : Act} {w : World} {K : Value → World → Prop} {next : Act → World → Prop} (h : Out P K ((execOp a.eval o).run P w)) (hk : ∀ v w', K v w' → next (a.put o.dst v) w') : o.wp P a w next Q := by
  unfold Oper.wp
  generalize (execOp a.eval o).run P w = r at h
  unfold Out at h
  split at h
  · exact hk _ _ h
  · exact hk _ _ h
  · exact h.mono fun e w' ⟨v, he, hkk⟩ => by subst he; exact hk _ _ hkk
  · exact h.elim

theorem dst_eq {ops : List Oper} {j t : Nat} (h : dstOf ops j = some t) : ((ops.toArray[j]?).bind (·.dst)) = some t := by
  unfold dstOf at h
  rw [nth_eq] at h
  cases ho : ops[j]? with
  | none => simp [ho] at h
  | some o => simp [ho] at h; simp [ho, h]

theorem yield_bool {ops : List Oper} {j t : Nat} {e : Env} {a : Act} {b : Bool} (h : Rel n e a) (hd : dstOf ops j = some t) (he : e t = some (.bool b)) : yielded ops.toArray a.tmps j = some b := by
  have hv := h.vals t _ he
  unfold yielded
  rw [dst_eq hd]
  have : a.tmps[t]? = some (.bool b) := by
    rw [Array.getD_eq_getD_getElem?] at hv
    cases hh : a.tmps[t]? with
    | none => rw [hh] at hv; simp [undef] at hv
    | some u => rw [hh] at hv; simpa using hv
  simp [this]

theorem yield_none {ops : List Oper} {j t : Nat} {e : Env} {a : Act} {v : Value} (h : Rel n e a) (hd : dstOf ops j = some t) (he : e t = some v) (hv : ∀ b, v ≠ .bool b) : yielded ops.toArray a.tmps j = none := by
  have hh := h.vals t _ he
  unfold yielded
  rw [dst_eq hd]
  simp only [Option.bind_some]
  rw [Array.getD_eq_getD_getElem?] at hh
  cases hq : a.tmps[t]? with
  | none => rfl
  | some u =>
    rw [hq] at hh
    simp at hh
    subst hh
    cases u <;> first | rfl | (exact absurd rfl (hv _))

theorem operD_ok (hT : TOk P T) (hZ : TSize T) {ops : List Oper} {o : Oper} {e : Env} {a : Act} {w : World} {K : Env → World → Prop} {next : Act → World → Prop} (hr : Rel n e a)
    (h : operD P T n ops o e w K) (hk : ∀ e' v w', Rel n e' (a.put o.dst v) → K e' w' → next (a.put o.dst v) w') :
    if Region.wanted o (yielded ops.toArray a.tmps) then o.wp P a w next Q else next (a.put o.dst undef) w := by
  unfold operD at h
  cases hg : o.guard with
  | none =>
    simp only [hg] at h
    have hw : Region.wanted o (yielded ops.toArray a.tmps) = true := by simp [Region.wanted, hg]
    rw [if_pos hw]
    exact wp_of_out (opD_ok hT hZ hr.ev h) fun v w' hkk => let ⟨e', h1, h2⟩ := setD_ok hr hkk; hk e' v w' h1 h2
  | some g =>
    obtain ⟨j, want⟩ := g
    simp only [hg] at h
    obtain ⟨t, ht, h⟩ := bindL_some h
    split at h
    · rename_i b hb
      have hy := yield_bool hr ht hb
      have hwd : Region.wanted o (yielded ops.toArray a.tmps) = (b == want) := by simp [Region.wanted, hg, hy]
      rw [hwd]
      have hval := hr.vals t _ hb
      rcases cond_or h with ⟨hc, h'⟩ | ⟨hc, h'⟩
      · have hbw : b = want := by cases want <;> cases b <;> simp_all
        subst hbw
        rw [if_pos (by simp)]
        have hr' := hr.upd_same hval
        exact wp_of_out (opD_ok hT hZ hr'.ev h') fun v w' hkk => let ⟨e', h1, h2⟩ := setD_ok hr' hkk; hk e' v w' h1 h2
      · have hbw : b = !want := by cases want <;> cases b <;> simp_all
        subst hbw
        rw [if_neg (by simp)]
        have hr' := hr.upd_same hval
        obtain ⟨e', h1, h2⟩ := setD_ok hr' h'
        exact hk e' undef w h1 h2
    · rename_i v hv hnb
      have hy := yield_none hr ht hnb (fun b hb => hv b hb)
      have hwd : Region.wanted o (yielded ops.toArray a.tmps) = false := by simp [Region.wanted, hg, hy]
      rw [if_neg (by simp [hwd])]
      obtain ⟨e', h1, h2⟩ := setD_ok hr h
      exact hk e' undef w h1 h2
    · exact h.elim

/-- A region in the order of the text. -/
theorem opsD_ok (hT : TOk P T) (hZ : TSize T) {all : List Oper} : ∀ {l : List Oper} {e : Env} {a : Act} {w : World} {K : Env → World → Prop}, Rel n e a →
    opsD P T n all l e w K → ∀ (a0 : Act) (p : Nat → Prop), (∀ o ∈ l, ∀ t, o.dst = some t → p t) → Fr p a0 a → (∀ e' a' w', Rel n e' a' → Fr p a0 a' → K e' w' → Q .normal a' w') → wpList P all.toArray Q l a w
  | [], e, a, w, K, hr, h, a0, p, hp, hf, hk => hk e a w hr hf h
  | o :: l, e, a, w, K, hr, h, a0, p, hp, hf, hk => by
    simp only [wpList]
    have := operD_ok (Q := Q) (next := wpList P all.toArray Q l) hT hZ hr h fun e' v w' hr' hkk =>
      opsD_ok hT hZ hr' hkk a0 p (fun o' ho' => hp o' (List.mem_cons_of_mem _ ho')) (hf.trans (Fr.put (fun t ht => hp o (List.mem_cons_self ..) t ht) v)) hk
    split
    · rename_i hw; rw [if_pos hw] at this; exact .inl this
    · rename_i hw; rw [if_neg hw] at this; exact this

end
end Go.Eng
