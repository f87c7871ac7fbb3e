/-
  A statement whose order Go leaves open: an operation that only looks may be taken first, as long as what it looked at stays. No condition.
-/
import Derived.Test.YtmecjaojkegamaaDoorSnd6
set_option linter.unusedVariables false
set_option linter.unusedSimpArgs false
set_option linter.unnecessarySimpa false
set_option linter.unusedSectionVars false
namespace Go.Eng
open Go

section
variable {P : Program} {ops : Array Oper} {Q : Exit → Act → World → Prop} {C : Array Bool → World → Prop}

/-- It enters no function, and has a value. -/
def plainNext : Result Next → Prop
  | .ok .skip _ => False
  | .ok (.enter _ _) _ => False
  | .ok (.row _ _) _ => False
  | _ => True

theorem plain_bind {α : Type} {x : Sem α} {f : α → Sem Next} (h : ∀ a w, plainNext ((f a).run P w)) (w : World) : plainNext ((x >>= f).run P w) := by
  rw [Sem.run_bind]
  cases x.run P w with
  | ok a w' => exact h a w'
  | halt x w' => trivial

theorem plain_v (s : Sem Value) (w : World) : plainNext ((do pure (Next.value (← s)) : Sem Next).run P w) := by
  apply plain_bind; intro v w; exact trivial

theorem plain_panic (w : World) (e : RuntimeError) (he : e = .nilDeref) : plainNext ((runtimePanic (α := Next) e).run P w) := by
  subst he
  unfold runtimePanic
  apply plain_bind; intro v w; exact trivial

theorem quiet_run {o : Oper} (h : quiet o.op = true) (ρ : Operand → Value) (w : World) : plainNext ((execOp ρ o).run P w) := by
  obtain ⟨dst, op, ty, pos, after, guard⟩ := o
  cases op <;> simp only [quiet] at h <;> (try (cases h; done))
  case nilCheck x =>
    simp only [execOp]
    split
    · exact plain_panic w _ rfl
    · exact plain_panic w _ rfl
    · exact plain_panic w _ rfl
    · split
      · exact plain_panic w _ rfl
      · refine plain_bind (fun p w => plain_bind (fun b w => ?_) w) w
        split
        · apply plain_bind; intro v w; exact trivial
        · exact trivial
      · exact trivial
    · trivial
  case call c =>
    obtain ⟨callee, args, ts⟩ := c
    cases callee <;> simp only at h <;> (try (cases h; done))
    rename_i b
    cases b <;> simp only [quietB] at h <;> (try (cases h; done))
    all_goals (simp only [execOp, resolve, pure_bind, invoke, builtin]; exact plain_v _ _)
  case pick c a b => simp only [execOp]; apply plain_bind; intro v w; exact trivial
  all_goals (first | exact plain_v _ _ | trivial)

/-- Whatever order is picked from here on, draws coming at any time, C holding behind each operation. -/
def wpC (P : Program) (ops : Array Oper) (Q : Exit → Act → World → Prop) (C : Array Bool → World → Prop) : Nat → Array Bool → Act → World → Prop
  | 0, listed, a, w => Region.ready .any ops listed = [] ∧ ∀ n, Q .normal a (w.drewN n)
  | fuel + 1, listed, a, w => ∀ n, (Region.ready .any ops listed = [] → Q .normal a (w.drewN n)) ∧
      ∀ i ∈ Region.ready .any ops listed, wpOp P ops Q i (fun a' w' => C (listed.setIfInBounds i true) w' ∧ wpC P ops Q C fuel (listed.setIfInBounds i true) a' w') a (w.drewN n)

theorem wpAny_of_C : ∀ (fuel : Nat) (listed : Array Bool) (a : Act) (w : World), wpC P ops Q C fuel listed a w → wpAny P .any ops Q fuel listed a w
  | 0, _, _, _, h => ⟨h.1, h.2 0⟩
  | fuel + 1, _, _, _, h => ⟨(h 0).1, fun i hi => wpOp_mono (fun a' w' h' => wpAny_of_C fuel _ a' w' h'.2) ((h 0).2 i hi)⟩

theorem wpC_drew {fuel : Nat} {listed : Array Bool} {a : Act} {w : World} (h : wpC P ops Q C fuel listed a w) (m : Nat) : wpC P ops Q C fuel listed a (w.drewN m) := by
  cases fuel with
  | zero => exact ⟨h.1, fun n => by rw [World.drewN_drewN]; exact h.2 _⟩
  | succ fuel => intro n; rw [World.drewN_drewN]; exact h _

/-- What was listed stays listed. -/
def Ext (l l' : Array Bool) : Prop := ∀ j, l.getD j false = true → l'.getD j false = true
theorem Ext.refl (l : Array Bool) : Ext l l := fun _ h => h
theorem Ext.set {l l' : Array Bool} (h : Ext l l') (i : Nat) : Ext l (l'.setIfInBounds i true) := fun j hj => getD_set_true (h j hj)

theorem wpC_mono {C' : Array Bool → World → Prop} : ∀ (fuel : Nat) (l0 listed : Array Bool) (a : Act) (w : World), Ext l0 listed → (∀ l w, Ext l0 l → C' l w → C l w) →
    wpC P ops Q C' fuel listed a w → wpC P ops Q C fuel listed a w
  | 0, _, _, _, _, _, _, h => h
  | fuel + 1, l0, _, _, _, hx, hC, h => fun n => ⟨(h n).1, fun i hi => wpOp_mono (fun a' w' h' => ⟨hC _ _ (hx.set i) h'.1, wpC_mono fuel l0 _ a' w' (hx.set i) hC h'.2⟩) ((h n).2 i hi)⟩

/-- What a listed operation waits for is listed. -/
def closedL (ops : Array Oper) (listed : Array Bool) : Prop := ∀ j oj, ops[j]? = some oj → listed.getD j false = true → ∀ e ∈ oj.after, Region.binds .any e = true → listed.getD e.on false = true

theorem getD_both' {listed : Array Bool} {i : Nat} (h : listed.getD i true = false) : listed.getD i false = false := by
  rcases Nat.lt_or_ge i listed.size with h' | h'
  · simp [h'] at h ⊢; exact h
  · simp [Array.getElem?_eq_none h'] at h

theorem closedL.set {i : Nat} {listed : Array Bool} (h : closedL ops listed) (hi : i ∈ Region.ready .any ops listed) : closedL ops (listed.setIfInBounds i true) := by
  obtain ⟨_, oi, hoi, hall⟩ := mem_ready.1 hi
  intro j oj hj hl e he hb
  by_cases hij : i = j
  · subst hij
    have : oj = oi := Option.some.inj (hj.symm.trans hoi)
    subst this
    exact getD_set_true (hall e he hb)
  · rw [getD_set_ne false hij] at hl
    exact getD_set_true (h j oj hj hl e he hb)

/-- In every world that C lets come while it is not listed, operation i yields a value of S, drawing at most. -/
def YS (P : Program) (ops : Array Oper) (C : Array Bool → World → Prop) (i : Nat) (o : Oper) (S : Value → Prop) (a : Act) : Prop :=
  (Region.wanted o (yielded ops a.tmps) = true ∧ ∀ l w, closedL ops l → l.getD i true = false → C l w → ∃ v n, (execOp a.eval o).run P w = .ok (.value v) (w.drewN n) ∧ S v) ∨
  (Region.wanted o (yielded ops a.tmps) = false ∧ S undef)

theorem YS.same {i : Nat} {o : Oper} {S : Value → Prop} {a a' : Act} (h : YS P ops C i o S a) (he : execOp a'.eval o = execOp a.eval o)
    (hw : Region.wanted o (yielded ops a'.tmps) = Region.wanted o (yielded ops a.tmps)) : YS P ops C i o S a' := by
  unfold YS at *; rw [he, hw]; exact h

/-- One operation, apart from 'oi', in all states that differ by oi's value alone. -/
theorem wpOp_all {j : Nat} {oi oj : Oper} {S : Value → Prop} (hj : ops[j]? = some oj) (hap : oi.apart ops oj = true)
    (hsj : ∀ cs b, oj.op ≠ .select cs b) (hne : ∃ v, S v) (hS : (∀ v v', S v → S v' → v = v') ∨ quiet oj.op = true) (hQ : ∀ c a w, ¬ Q (.panic c) a w)
    {K : Value → Act → World → Prop} {R : Act → Prop} (hR : ∀ a, R a → ∀ u, R (a.put oj.dst u)) (hRd : ∀ a d, R a → R { a with defers := d :: a.defers }) {a : Act} {w : World} (hRa : R a)
    (h : ∀ v, S v → wpOp P ops Q j (K v) (a.put oi.dst v) w) :
    wpOp P ops Q j (fun a' w' => R a' ∧ ∀ v, S v → K v (a'.put oi.dst v) w') a w := by
  obtain ⟨h1, h2, h3⟩ := Oper.apart_spec hap
  obtain ⟨v0, hv0⟩ := hne
  unfold wpOp at *
  simp only [hj] at *
  have hwant : ∀ v, Region.wanted oj (yielded ops (a.put oi.dst v).tmps) = Region.wanted oj (yielded ops a.tmps) := fun v => wanted_put oj a oi.dst v h1
  by_cases hw : Region.wanted oj (yielded ops a.tmps) = true
  · simp only [hwant, hw, if_true] at h ⊢
    by_cases hask : oj.asks P a w ∧ LetsOut Q
    · exact .inr hask
    · have h' : ∀ v, S v → oj.wp P (a.put oi.dst v) w (K v) Q := fun v hv => (h v hv).resolve_right fun ⟨x, y⟩ => hask ⟨by
        unfold Oper.asks at *; rw [execOp_put oj hsj a oi.dst v h1] at x; exact x, y⟩
      refine .inl ?_
      have hq := fun hq => quiet_run (P := P) (o := oj) hq a.eval w
      unfold Oper.wp at *
      have h'' : ∀ v, S v → oj.upon P (a.put oi.dst v) (K v) Q ((execOp a.eval oj).run P w) := fun v hv => by
        have := h' v hv
        rwa [execOp_put oj hsj a oi.dst v h1] at this
      clear h' h
      generalize (execOp a.eval oj).run P w = r at *
      cases r with
      | ok n w' =>
        cases n <;> simp only [Oper.upon] at h'' ⊢ <;> (try exact (h'' v0 hv0).elim)
        case value u => exact ⟨hR a hRa u, fun v hv => by rw [← Act.put_comm a v u h2]; exact h'' v hv⟩
        case skip => exact ⟨hR a hRa _, fun v hv => by rw [← Act.put_comm a v undef h2]; exact h'' v hv⟩
        case defer d =>
          refine ⟨hR _ (hRd a d hRa) _, fun v hv => ?_⟩
          rw [← Act.put_comm _ v undef h2, ← Act.put_defers]
          exact h'' v hv
        case enter f args =>
          rcases hS with hS | hS
          · refine Calls.mono (h'' v0 hv0) fun e w'' he => ?_
            cases e with
            | returned u => exact ⟨hR a hRa u, fun v hv => by rw [hS v v0 hv hv0, ← Act.put_comm a v0 u h2]; exact he⟩
            | panicked c => exact (hQ _ _ _ he).elim
            | outgrown => exact he
          · exact (hq hS).elim
        case row row args =>
          rcases hS with hS | hS
          · refine Rows.mono (h'' v0 hv0) fun u w'' he => ?_
            exact ⟨hR a hRa u, fun v hv => by rw [hS v v0 hv hv0, ← Act.put_comm a v0 u h2]; exact he⟩
          · exact (hq hS).elim
      | halt x w' => cases x <;> simp only [Oper.upon] at h'' ⊢ <;> first | exact (h'' v0 hv0).elim | exact (hQ _ _ _ (h'' v0 hv0)).elim
  · simp only [hwant, hw] at h ⊢
    exact ⟨hR a hRa _, fun v hv => by rw [← Act.put_comm a v undef h2]; exact h v hv⟩

/-- What waits for operation i, near or far. -/
inductive Beh (ops : Array Oper) (i : Nat) : Nat → Prop
  | self : Beh ops i i
  | step {j : Nat} {oj : Oper} {e : Edge} : ops[j]? = some oj → e ∈ oj.after → Region.binds .any e = true → Beh ops i e.on → Beh ops i j

theorem Beh.unlisted {i j : Nat} {listed : Array Bool} (hcl : closedL ops listed) (hi : listed.getD i true = false) (h : Beh ops i j) : listed.getD j false = false := by
  induction h with
  | self => exact getD_both' hi
  | @step j oj e hj he hb _ ih =>
    cases hl : listed.getD j false with
    | false => rfl
    | true => rw [hcl j oj hj hl e he hb] at ih; cases ih

/-- AN OPERATION THAT ONLY LOOKS MAY BE TAKEN FIRST. -/
theorem wpC_first {i : Nat} {oi : Oper} {S : Value → Prop} (hi : ops[i]? = some oi) (hsel : ∀ (j : Nat) (o : Oper) cs b, ops[j]? = some o → o.op ≠ .select cs b)
    (hCd : ∀ l w n, C l w → C l (w.drewN n)) (hCi : ∀ l w, C (l.setIfInBounds i true) w ↔ C l w) (hQ : ∀ c a w, ¬ Q (.panic c) a w) (hne : ∃ v, S v) :
    ∀ (fuel : Nat) (listed : Array Bool) (a : Act) (w : World),
      ((∀ v v', S v → S v' → v = v') ∨ (∀ j oj, ops[j]? = some oj → listed.getD j true = false → j ≠ i → (∀ e ∈ oj.after, Region.binds .any e = true → ¬ Beh ops i e.on) → quiet oj.op = true)) →
      (∀ j oj, ops[j]? = some oj → j ≠ i → listed.getD j true = false → (∀ e ∈ oj.after, Region.binds .any e = true → e.on ≠ i) → oi.apart ops oj = true) →
      i ∈ Region.ready .any ops listed → closedL ops listed → C listed w → YS P ops C i oi S a →
      (∀ v, S v → wpC P ops Q C fuel (listed.setIfInBounds i true) (a.put oi.dst v) w) → wpC P ops Q C (fuel + 1) listed a w := by
  intro fuel
  induction fuel with
  | zero =>
    intro listed a w hS hfree hr hcl hC hy H n
    refine ⟨fun h => (by rw [h] at hr; cases hr), fun j hj => ?_⟩
    by_cases hji : j = i
    · subst hji
      have hun := (mem_ready.1 hr).1
      unfold wpOp
      simp only [hi]
      rcases hy with ⟨hw, hy⟩ | ⟨hw, hy⟩
      · simp only [hw, if_true]
        obtain ⟨v, m, hrun, hv⟩ := hy listed (w.drewN n) hcl hun (hCd _ _ _ hC)
        refine .inl ?_
        unfold Oper.wp
        rw [hrun]
        simp only [Oper.upon]
        exact ⟨(hCi _ _).2 (hCd _ _ _ (hCd _ _ _ hC)), by rw [World.drewN_drewN]; exact wpC_drew (H v hv) _⟩
      · simp only [hw, Bool.false_eq_true, if_false]
        exact ⟨(hCi _ _).2 (hCd _ _ _ hC), wpC_drew (H _ hy) _⟩
    · obtain ⟨v, hv⟩ := hne
      have := ready_mono hj hji
      rw [(H v hv).1] at this
      cases this
  | succ fuel ih =>
    intro listed a w hS hfree hr hcl hC hy H n
    refine ⟨fun h => (by rw [h] at hr; cases hr), fun j hj => ?_⟩
    by_cases hji : j = i
    · subst hji
      have hun := (mem_ready.1 hr).1
      unfold wpOp
      simp only [hi]
      rcases hy with ⟨hw, hy⟩ | ⟨hw, hy⟩
      · simp only [hw, if_true]
        obtain ⟨v, m, hrun, hv⟩ := hy listed (w.drewN n) hcl hun (hCd _ _ _ hC)
        refine .inl ?_
        unfold Oper.wp
        rw [hrun]
        simp only [Oper.upon]
        exact ⟨(hCi _ _).2 (hCd _ _ _ (hCd _ _ _ hC)), by rw [World.drewN_drewN]; exact wpC_drew (H v hv) _⟩
      · simp only [hw, Bool.false_eq_true, if_false]
        exact ⟨(hCi _ _).2 (hCd _ _ _ hC), wpC_drew (H _ hy) _⟩
    · obtain ⟨hjun, oj, hoj, hall⟩ := mem_ready.1 hj
      have hnot : ∀ e ∈ oj.after, Region.binds .any e = true → e.on ≠ i := fun e he hb heq => by
        have h1 := hall e he hb
        have h0 := getD_both' (mem_ready.1 hr).1
        rw [heq, h0] at h1
        cases h1
      have hnot' : ∀ e ∈ oj.after, Region.binds .any e = true → ¬ Beh ops i e.on := fun e he hb hbe => by
        have h1 := hall e he hb
        rw [hbe.unlisted hcl (mem_ready.1 hr).1] at h1
        cases h1
      have hap := hfree j oj hoj hji hjun hnot
      obtain ⟨h1, h2, h3⟩ := Oper.apart_spec hap
      have hall2 := wpOp_all (S := S) (R := fun a' => YS P ops C i oi S a') (K := fun v a' w' => C ((listed.setIfInBounds i true).setIfInBounds j true) w' ∧ wpC P ops Q C fuel ((listed.setIfInBounds i true).setIfInBounds j true) a' w')
        hoj hap (fun cs b => hsel j oj cs b hoj) hne (hS.imp id fun h => h j oj hoj hjun hji hnot') hQ
        (fun a hy u => hy.same (execOp_put oi (fun cs b => hsel i oi cs b hi) a oj.dst u h3) (wanted_put oi a oj.dst u h3)) (fun a d hy => hy.same rfl rfl) hy
        (fun v hv => (H v hv n).2 j (ready_mono hj hji))
      refine wpOp_mono (fun a' w' hh => ?_) hall2
      obtain ⟨hy', hh⟩ := hh
      obtain ⟨v0, hv0⟩ := hne
      have hcomm : (listed.setIfInBounds i true).setIfInBounds j true = (listed.setIfInBounds j true).setIfInBounds i true := Array.setIfInBounds_comm _ _ (Ne.symm hji)
      have hC' : C (listed.setIfInBounds j true) w' := by
        have := (hh v0 hv0).1
        rw [hcomm] at this
        exact (hCi _ _).1 this
      have hsub : ∀ k ok, ops[k]? = some ok → (listed.setIfInBounds j true).getD k true = false → listed.getD k true = false := fun k ok _ hun => by
        by_cases hjk : j = k
        · subst hjk; exact hjun
        · rw [getD_set_ne true hjk] at hun; exact hun
      refine ⟨hC', ih (listed.setIfInBounds j true) a' w' (hS.imp id fun h k ok hk hun => h k ok hk (hsub k ok hk hun)) ?_ (ready_mono hr (Ne.symm hji)) (hcl.set hj) hC' hy' ?_⟩
      · intro k ok hk hki hun hno
        exact hfree k ok hk hki (hsub k ok hk hun) hno
      · intro v hv
        rw [← hcomm]
        exact (hh v hv).2

end
end Go.Eng
