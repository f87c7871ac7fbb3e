/-
  A region whose order Go leaves open, read in one order: sound for every order. No condition but that the table of types is the program's.
-/
import Derived.Test.YtmecjaojkegamaaDoorRegs3
set_option linter.unusedVariables false
set_option linter.unusedSimpArgs false
set_option linter.unnecessarySimpa false
set_option linter.unusedSectionVars false
namespace Go.Eng
open Go

section
variable {P : Program} {T : Nat → Option TI} {n : Nat} {Q : Exit → Act → World → Prop}

def factsOk (H : List Fact) (w : World) : Prop := ∀ f ∈ H, w.cell? f.2.1 = some f.2.2

theorem ldCs_facts {k : Nat} : ∀ {cs : List Ce} {a : Addr} {i : Nat} {w : World} {K : List Value → Prop}, ldCs cs a i w K →
    ∃ vs : List Value, K vs ∧ factsOk (factsFrom k a i vs) w ∧ ∀ (w' : World) (K' : List Value → Prop), factsOk (factsFrom k a i vs) w' → K' vs → ldCs cs a i w' K'
  | [], a, i, w, K, h => ⟨[], h, by simp [factsFrom, factsOk], fun w' K' _ hk => hk⟩
  | c :: cs, a, i, w, K, h => by
    have key : ∃ v, (w.cell? (a.add i) = some v ∧ ldCs cs a (i + 1) w fun vs => K (v :: vs)) ∧ ∀ (w' : World) (K' : Value → Prop), w'.cell? (a.add i) = some v → K' v → ldC c w' (a.add i) K' := by
      unfold ldCs ldC at h
      cases c <;> simp only [Ce.ex] at h
      case slice => obtain ⟨x, y, z, h⟩ := h; exact ⟨_, h, fun w' K' h1 h2 => ⟨x, y, z, h1, h2⟩⟩
      all_goals (obtain ⟨x, h⟩ := h; exact ⟨_, h, fun w' K' h1 h2 => ⟨x, h1, h2⟩⟩)
    obtain ⟨v, ⟨hv, h⟩, hre⟩ := key
    obtain ⟨vs, hk, hf, hall⟩ := ldCs_facts (k := k) h
    refine ⟨v :: vs, hk, ?_, fun w' K' hf' hk' => ?_⟩
    · intro f hfm
      rcases List.mem_cons.1 hfm with rfl | hfm
      · exact hv
      · exact hf f hfm
    · exact hre w' _ (hf' _ (List.mem_cons_self ..)) (hall w' _ (fun f hfm => hf' f (List.mem_cons_of_mem _ hfm)) hk')

theorem factsFrom_k {k : Nat} {a : Addr} : ∀ {vs : List Value} {i : Nat}, ∀ f ∈ factsFrom k a i vs, f.1 = k
  | [], _, f, h => by cases h
  | v :: vs, i, f, h => by
    rcases List.mem_cons.1 h with rfl | h
    · rfl
    · exact factsFrom_k f h

theorem ldC_key {c : Ce} {w : World} {x : Addr} {K : Value → Prop} (h : ldC c w x K) : ∃ v, w.cell? x = some v ∧ K v ∧ ∀ (w' : World) (K' : Value → Prop), w'.cell? x = some v → K' v → ldC c w' x K' := by
  unfold ldC at h ⊢
  cases c <;> simp only [Ce.ex] at h ⊢
  case slice => obtain ⟨x, y, z, h⟩ := h; exact ⟨_, h.1, h.2, fun w' K' h1 h2 => ⟨x, y, z, h1, h2⟩⟩
  all_goals (obtain ⟨x, h⟩ := h; exact ⟨_, h.1, h.2, fun w' K' h1 h2 => ⟨x, h1, h2⟩⟩)

theorem loadD_mk {ti : TI} {a : Addr} {w : World} {K : Value → Prop} (h : cond ti.d.isAgg (ldCs (ces (vcells ti.zero)) a 0 w fun vs => K (.agg vs.toArray)) (ldC (Ce.of ti.zero) w a K)) : loadD ti (.pointer (some a)) w K := h

/-- What an operation that only looks may yield: S; what it read. -/
theorem quietD_ok {e : Env} {k ty : Nat} {op : Op} {w : World} {K : Value → List Fact → Prop} (hq : quiet op = true) (h : quietD P T e k ty op w K) :
    ∃ (S : Value → Prop) (H : List Fact), (∀ v, S v → K v H) ∧ factsOk H w ∧ (∀ f ∈ H, f.1 = k) ∧
      (∀ w', factsOk H w' → opD P T e ty op w' fun v w1 => S v ∧ ∃ m, w1 = w'.drewN m) ∧ (draws T op = false → ∀ v v', S v → S v' → v = v') := by
  by_cases hl : ∃ t a, op = .load t a
  · obtain ⟨t, a, rfl⟩ := hl
    have h' : bindL (T t) fun ti => bindV (ev e a) fun p => loadF k ti p w K := h
    replace h' := bindL_some h'
    obtain ⟨ti, hti, h'⟩ := h'
    replace h' := bindV_some h'
    obtain ⟨p, hp, h'⟩ := h'
    obtain ⟨o, rfl⟩ : ∃ o, p = .pointer o := by cases p <;> first | exact ⟨_, rfl⟩ | exact (show False from h').elim
    have h2 : optM o fun a => cond ti.d.isAgg (ldCs (ces (vcells ti.zero)) a 0 w fun vs => K (.agg vs.toArray) (factsFrom k a 0 vs)) (ldC (Ce.of ti.zero) w a fun v => K v [(k, a, v)]) := h'
    obtain ⟨x, rfl, h2⟩ := optM_some h2
    rcases cond_or h2 with ⟨hb, h2⟩ | ⟨hb, h2⟩
    · obtain ⟨vs, hk, hf, hall⟩ := ldCs_facts (k := k) h2
      refine ⟨fun v => v = .agg vs.toArray, factsFrom k x 0 vs, fun v hv => by subst hv; exact hk, hf, factsFrom_k, fun w' hf' => ?_, fun _ v v' h1 h2 => h1.trans h2.symm⟩
      refine bindL_mk hti (bindV_mk hp (loadD_mk ?_))
      rw [hb]
      exact hall w' _ hf' ⟨rfl, 0, rfl⟩
    · obtain ⟨v, hv, hk, hall⟩ := ldC_key h2
      refine ⟨fun u => u = v, [(k, x, v)], fun u hu => by subst hu; exact hk, ?_, ?_, fun w' hf' => ?_, fun _ v v' h1 h2 => h1.trans h2.symm⟩
      · intro f hf; simp at hf; subst hf; exact hv
      · intro f hf; simp at hf; subst hf; rfl
      · refine bindL_mk hti (bindV_mk hp (loadD_mk ?_))
        rw [hb]
        exact hall w' _ (hf' _ (List.mem_singleton.2 rfl)) ⟨rfl, 0, rfl⟩
  · have hl' : ∀ t a, op ≠ .load t a := fun t a he => hl ⟨t, a, he⟩
    have h' : opD P T e ty op w fun v _ => K v [] := by
      cases op <;> first | exact h | exact absurd rfl (hl' _ _)
    by_cases hd : draws T op = false
    · obtain ⟨v, hv, hall⟩ := opD_det hq hl' hd h'
      exact ⟨fun u => u = v, [], fun u hu => by subst hu; exact hv, (by intro f hf; cases hf), (by intro f hf; cases hf), fun w' _ => hall w' _ ⟨rfl, 0, rfl⟩, fun _ v v' h1 h2 => h1.trans h2.symm⟩
    · exact ⟨fun u => K u [], [], fun u hu => hu, (by intro f hf; cases hf), (by intro f hf; cases hf), fun w' _ => opD_any hq hl' h' w', fun h => absurd h hd⟩

theorem setD_rel {e : Env} {a : Act} (h : Rel n e a) {d : Option Nat} {v : Value} {K : Env → Prop} (hk : setD n e d v K) : ∃ e', Rel n e' (a.put d v) ∧ K e' := setD_ok h hk

/-- The same with its guard. -/
theorem operQ_ok (hT : TOk P T) (hZ : TSize T) {ops : List Oper} {k : Nat} {o : Oper} {e : Env} {a : Act} {w : World} {K : Env → List Fact → Prop} (hr : Rel n e a) (hq : quiet o.op = true)
    (h : operQ P T n ops k o e w K) :
    ∃ (S : Value → Prop) (H : List Fact), (∀ v, S v → ∃ e', Rel n e' (a.put o.dst v) ∧ K e' H) ∧ factsOk H w ∧ (∀ f ∈ H, f.1 = k) ∧
      ((Region.wanted o (yielded ops.toArray a.tmps) = true ∧ ∀ w', factsOk H w' → ∃ v m, (execOp a.eval o).run P w' = .ok (.value v) (w'.drewN m) ∧ S v) ∨
        (Region.wanted o (yielded ops.toArray a.tmps) = false ∧ S undef)) ∧ (draws T o.op = false → ∀ v v', S v → S v' → v = v') := by
  have run : ∀ {e : Env} (_ : Rel n e a) {S : Value → Prop} {w' : World}, (opD P T e o.type o.op w' fun v w1 => S v ∧ ∃ m, w1 = w'.drewN m) → ∃ v m, (execOp a.eval o).run P w' = .ok (.value v) (w'.drewN m) ∧ S v := by
    intro e hr S w' h
    have h1 := opD_ok hT hZ hr.ev h
    have h2 := quiet_run (P := P) hq a.eval w'
    generalize (execOp a.eval o).run P w' = r at *
    unfold Out at h1
    split at h1
    · obtain ⟨hs, m, rfl⟩ := h1; exact ⟨_, m, rfl, hs⟩
    · exact h2.elim
    · exact h2.elim
    · exact h1.elim
  unfold operQ at h
  cases hg : o.guard with
  | none =>
    simp only [hg] at h
    obtain ⟨S, H, h1, h2, h3, h4, h5⟩ := quietD_ok hq h
    exact ⟨S, H, fun v hv => setD_rel hr (h1 v hv), h2, h3, .inl ⟨by simp [Region.wanted, hg], fun w' hf => run hr (h4 w' hf)⟩, h5⟩
  | some g =>
    obtain ⟨j, want⟩ := g
    simp only [hg] at h
    replace h := bindL_some h
    obtain ⟨t, ht, h⟩ := h
    split at h
    · rename_i b hb
      have hy := yield_bool hr ht hb
      have hwd : Region.wanted o (yielded ops.toArray a.tmps) = (b == want) := by simp [Region.wanted, hg, hy]
      rw [hwd]
      have hval := hr.vals t _ hb
      rcases cond_or h with ⟨hc, h'⟩ | ⟨hc, h'⟩
      · have hbw : b = want := by cases want <;> cases b <;> simp_all
        subst hbw
        have hr' := hr.upd_same hval
        obtain ⟨S, H, h1, h2, h3, h4, h5⟩ := quietD_ok hq h'
        exact ⟨S, H, fun v hv => setD_rel hr' (h1 v hv), h2, h3, .inl ⟨by simp, fun w' hf => run hr' (h4 w' hf)⟩, h5⟩
      · have hbw : b = !want := by cases want <;> cases b <;> simp_all
        subst hbw
        have hr' := hr.upd_same hval
        exact ⟨fun u => u = undef, [], fun v hv => by subst hv; exact setD_rel hr' h', (by intro f hf; cases hf), (by intro f hf; cases hf), .inr ⟨by simp, rfl⟩, fun _ v v' h1 h2 => h1.trans h2.symm⟩
    · rename_i v hv hnb
      have hy := yield_none hr ht hnb (fun b hb => hv b hb)
      exact ⟨fun u => u = undef, [], fun v hv => by subst hv; exact setD_rel hr h, (by intro f hf; cases hf), (by intro f hf; cases hf), .inr ⟨by simp [Region.wanted, hg, hy], rfl⟩, fun _ v v' h1 h2 => h1.trans h2.symm⟩
    · exact h.elim

/-- The facts that must hold: those of operations for which no operation that acts and has been carried out waits. -/
def Cof (ops : Array Oper) (H : List Fact) (l : Array Bool) (w : World) : Prop :=
  ∀ f ∈ H, (∀ d od, ops[d]? = some od → quiet od.op = false → l.getD d false = true → waitsFar ops f.1 4 od = false) → w.cell? f.2.1 = some f.2.2

theorem waits_spec {o : Oper} {i : Nat} : waits o i = true ↔ ∃ e ∈ o.after, Region.binds .any e = true ∧ e.on = i := by
  unfold waits
  simp only [List.any_eq_true]
  constructor
  · rintro ⟨e, he, h⟩
    cases hb : Region.binds .any e with
    | false => rw [hb] at h; simp at h
    | true => rw [hb] at h; exact ⟨e, by simpa using he, hb, Nat.eq_of_beq_eq_true h⟩
  · rintro ⟨e, he, hb, rfl⟩
    exact ⟨e, by simpa using he, by simp [hb]⟩

theorem heldK_spec : ∀ {H : List Fact} {w : World} {K : Prop}, heldK H w K → factsOk H w ∧ K
  | [], w, K, h => ⟨(by intro f hf; cases hf), h⟩
  | f :: H, w, K, h => by
    obtain ⟨h1, h2⟩ := heldK_spec h.2
    refine ⟨fun g hg => ?_, h2⟩
    rcases List.mem_cons.1 hg with rfl | hg
    · exact h.1
    · exact h1 g hg

theorem mem_dropF {ops : Array Oper} {o : Oper} : ∀ {H : List Fact} {f : Fact}, f ∈ H → waitsFar ops f.1 4 o = false → f ∈ dropF ops o H
  | g :: H, f, hf, hw => by
    simp only [dropF]
    rcases List.mem_cons.1 hf with rfl | hf
    · rw [hw]; exact List.mem_cons_self ..
    · have := mem_dropF hf hw
      cases waitsFar ops g.1 4 o
      · exact List.mem_cons_of_mem _ this
      · exact this

theorem waitsFar_spec {ops : Array Oper} {k : Nat} : ∀ (f : Nat) {o : Oper}, waitsFar ops k f o = true → ∃ e ∈ o.after, Region.binds .any e = true ∧ Beh ops k e.on
  | 0, o, h => by
    obtain ⟨e, he, hb, hon⟩ := waits_spec.1 h
    exact ⟨e, he, hb, by rw [hon]; exact .self⟩
  | f + 1, o, h => by
    unfold waitsFar at h
    rcases Bool.or_eq_true_iff.1 h with h | h
    · obtain ⟨e, he, hb, hon⟩ := waits_spec.1 h
      exact ⟨e, he, hb, by rw [hon]; exact .self⟩
    · obtain ⟨e, he, h⟩ := List.any_eq_true.1 h
      cases hb : Region.binds .any e with
      | false => rw [hb] at h; cases h
      | true =>
        rw [hb] at h
        cases hp : ops[e.on]? with
        | none => rw [hp] at h; cases h
        | some p =>
          rw [hp] at h
          obtain ⟨e2, he2, hb2, hbe⟩ := waitsFar_spec f h
          exact ⟨e, by simpa using he, hb, .step hp he2 hb2 hbe⟩

theorem onlyQuiet_spec {ops : Array Oper} {l : Array Bool} {k : Nat} (h : onlyQuiet ops l k = true) (j : Nat) (oj : Oper) (hj : ops[j]? = some oj) (hun : l.getD j true = false) (_ : j ≠ k)
    (hno : ∀ e ∈ oj.after, Region.binds .any e = true → ¬ Beh ops k e.on) : quiet oj.op = true := by
  unfold onlyQuiet at h
  have := List.all_eq_true.1 h j (List.mem_range.2 (Array.getElem?_eq_some_iff.1 hj).1)
  rw [hun, hj] at this
  simp only [Bool.false_or, Bool.or_eq_true] at this
  rcases this with h | h
  · exact h
  · obtain ⟨e, he, hb, hbe⟩ := waitsFar_spec 4 h
    exact absurd hbe (hno e he hb)

theorem opsO_ok (hT : TOk P T) (hZ : TSize T) {ops : List Oper} {K : Env → World → Prop} {p : Nat → Prop} {a0 : Act} (hsel : Region.noSelect ops.toArray = true) (hQp : ∀ c a w, ¬ Q (.panic c) a w)
    (hp : ∀ o ∈ ops, ∀ t, o.dst = some t → p t) (hQ : ∀ e' a' w', Rel n e' a' → Fr p a0 a' → K e' w' → Q .normal a' w') :
    ∀ (fuel : Nat) (ord : Ord) (listed : Array Bool) (H : List Fact) (e : Env) (a : Act) (w : World), closedL ops.toArray listed → Rel n e a → Fr p a0 a → Cof ops.toArray H listed w → opsO P T n ops ord H e w K →
      (ordOk T ops.toArray ord true fuel listed = true → wpC P ops.toArray Q (Cof ops.toArray H) fuel listed a w) ∧
      (∀ f, fuel = f + 1 → ordOk T ops.toArray ord false fuel listed = true → ∀ k ∈ heads ord, k ∈ Region.ready .any ops.toArray listed → ∀ m, wpOp P ops.toArray Q k (fun a' w' => Cof ops.toArray H (listed.setIfInBounds k true) w' ∧ wpC P ops.toArray Q (Cof ops.toArray H) f (listed.setIfInBounds k true) a' w') a (w.drewN m)) := by
  intro fuel
  induction fuel with
  | zero =>
    intro ord
    induction ord with
    | done =>
      intro listed H e a w hcl hr hf hC h
      refine ⟨fun hB => ?_, fun f hf => by cases hf⟩
      simp only [ordOk, Bool.and_eq_true] at hB
      exact ⟨by simpa using hB.2, fun m => hQ _ _ _ hr hf (h m)⟩
    | q k r _ => intro listed H e a w hcl hr hf hC h; exact ⟨fun hB => by simp [ordOk] at hB, fun f hf => by cases hf⟩
    | e k r _ => intro listed H e a w hcl hr hf hC h; exact ⟨fun hB => by simp [ordOk] at hB, fun f hf => by cases hf⟩
    | alt x y ihx ihy =>
      intro listed H e a w hcl hr hf hC h
      refine ⟨fun hB => ?_, fun f hf => by cases hf⟩
      simp only [ordOk, Bool.and_eq_true] at hB
      -- a branch without fuel is none
      have none_ : ∀ o : Ord, ordOk T ops.toArray o false 0 listed = true → False := by
        intro o
        induction o with
        | done => intro h; simp [ordOk] at h
        | q k r _ => intro h; simp [ordOk] at h
        | e k r _ => intro h; simp [ordOk] at h
        | alt x y ihx _ => intro h; simp only [ordOk, Bool.and_eq_true] at h; exact ihx h.1.2
      exact (none_ x hB.1.2).elim
  | succ fuel ih =>
    -- what acts
    have actE : ∀ (k : Nat) (r : Ord) (listed : Array Bool) (H : List Fact) (e : Env) (a : Act) (w : World), closedL ops.toArray listed → Rel n e a → Fr p a0 a → opsO P T n ops (.e k r) H e w K →
        ordOk T ops.toArray r true fuel (listed.setIfInBounds k true) = true → k ∈ Region.ready .any ops.toArray listed →
        ∀ m, wpOp P ops.toArray Q k (fun a' w' => Cof ops.toArray H (listed.setIfInBounds k true) w' ∧ wpC P ops.toArray Q (Cof ops.toArray H) fuel (listed.setIfInBounds k true) a' w') a (w.drewN m) := by
      intro k r listed H e a w hcl hr hf h hB hrd m
      obtain ⟨o, ho, h⟩ := bindL_some h
      rw [nth_eq] at ho
      have ho' : ops.toArray[k]? = some o := by simpa using ho
      have hmem : o ∈ ops := List.mem_of_getElem? ho
      have hclk := hcl.set hrd
      have hlt : k < listed.size := by
        have := (mem_ready.1 hrd).1
        rcases Nat.lt_or_ge k listed.size with h' | h'
        · exact h'
        · simp [Array.getElem?_eq_none h'] at this
      have hkl : (listed.setIfInBounds k true).getD k false = true := by simp [hlt]
      have fin : ∀ e' (v : Value) w', Rel n e' (a.put o.dst v) → (heldK (dropE ops.toArray o H) w' (opsO P T n ops r (dropE ops.toArray o H) e' w' K)) →
          Cof ops.toArray H (listed.setIfInBounds k true) w' ∧ wpC P ops.toArray Q (Cof ops.toArray H) fuel (listed.setIfInBounds k true) (a.put o.dst v) w' := by
        intro e' v w' hr' hh
        obtain ⟨hfo, hh⟩ := heldK_spec hh
        have imp : ∀ l w, Ext (listed.setIfInBounds k true) l → Cof ops.toArray (dropE ops.toArray o H) l w → Cof ops.toArray H l w := by
          intro l w hx hc f hfm hact
          cases hnq : quiet o.op with
          | true => exact hc f (by unfold dropE; rw [hnq]; exact hfm) hact
          | false =>
            have hw : waitsFar ops.toArray f.1 4 o = false := hact k o ho' hnq (hx k hkl)
            exact hc f (by unfold dropE; rw [hnq]; exact mem_dropF hfm hw) hact
        have hC' : Cof ops.toArray (dropE ops.toArray o H) (listed.setIfInBounds k true) w' := fun f hfm _ => hfo f hfm
        refine ⟨imp _ _ (Ext.refl _) hC', ?_⟩
        have := (ih r (listed.setIfInBounds k true) (dropE ops.toArray o H) e' (a.put o.dst v) w' hclk hr' (hf.trans (Fr.put (fun t ht => hp o hmem t ht) v)) hC' hh).1 hB
        exact wpC_mono fuel _ _ _ _ (Ext.refl _) imp this
      have := operD_ok (Q := Q) (next := fun a' w' => Cof ops.toArray H (listed.setIfInBounds k true) w' ∧ wpC P ops.toArray Q (Cof ops.toArray H) fuel (listed.setIfInBounds k true) a' w') hT hZ hr (h m) fun e' v w' hr' hkk => fin e' v w' hr' hkk
      unfold wpOp
      simp only [ho']
      split
      · rename_i hw; rw [if_pos hw] at this; exact .inl this
      · rename_i hw; rw [if_neg hw] at this; exact this
    intro ord
    induction ord with
    | done => intro listed H e a w hcl hr hf hC h; exact ⟨fun hB => by simp [ordOk] at hB, fun f hf hB k hk => by cases hk⟩
    | q k r _ =>
      intro listed H e a w hcl hr hf hC h
      refine ⟨fun hB => ?_, fun f hf hB k hk => by cases hk⟩
      simp only [ordOk, Bool.and_eq_true, Bool.true_and] at hB
      obtain ⟨⟨⟨hrd, hfree⟩, hq⟩, hB'⟩ := hB
      have hrd' : k ∈ Region.ready .any ops.toArray listed := by simpa using hrd
      obtain ⟨o, ho, h⟩ := bindL_some h
      rw [nth_eq] at ho
      have ho' : ops.toArray[k]? = some o := by simpa using ho
      rw [ho'] at hq
      simp only [Bool.and_eq_true, Bool.or_eq_true] at hq
      obtain ⟨hq1, hq2⟩ := hq
      have hmem : o ∈ ops := List.mem_of_getElem? ho
      obtain ⟨S, F, h1, h2, h3, h4, h5⟩ := operQ_ok hT hZ hr hq1 h
      have hne : ∃ v, S v := by
        rcases h4 with ⟨_, h4⟩ | ⟨_, h4⟩
        · obtain ⟨v, _, _, hv⟩ := h4 w h2; exact ⟨v, hv⟩
        · exact ⟨_, h4⟩
      have hclk := hcl.set hrd'
      have hCi : ∀ l w, Cof ops.toArray (F ++ H) (l.setIfInBounds k true) w ↔ Cof ops.toArray (F ++ H) l w := by
        intro l w
        have keep : ∀ d od, ops.toArray[d]? = some od → quiet od.op = false → (l.setIfInBounds k true).getD d false = l.getD d false := by
          intro d od hd hnq
          have hdk : k ≠ d := by
            intro e; subst e
            rw [ho'] at hd; cases hd
            rw [hq1] at hnq; cases hnq
          exact getD_set_ne false hdk
        constructor
        · intro hc f hfm hact
          exact hc f hfm fun d od hd hnq hl => hact d od hd hnq (by rw [keep d od hd hnq] at hl; exact hl)
        · intro hc f hfm hact
          exact hc f hfm fun d od hd hnq hl => hact d od hd hnq (by rw [keep d od hd hnq]; exact hl)
      have hCF : Cof ops.toArray (F ++ H) listed w := by
        intro f hfm hact
        rcases List.mem_append.1 hfm with hfm | hfm
        · exact h2 f hfm
        · exact hC f hfm hact
      refine wpC_mono (C' := Cof ops.toArray (F ++ H)) (fuel + 1) listed listed a w (Ext.refl _) (fun l w _ hc f hfm => hc f (List.mem_append_right _ hfm)) ?_
      refine wpC_first (S := S) ho' (Region.noSelect_spec hsel) (fun l w n hc f hfm hact => hc f hfm hact) hCi hQp hne fuel listed a w ?_ (Region.free_spec ho' hfree) hrd' hcl hCF ?_ ?_
      · rcases hq2 with hq2 | hq2
        · exact .inl (h5 (by simpa using hq2))
        · exact .inr (onlyQuiet_spec hq2)
      · rcases h4 with ⟨hw, h4⟩ | ⟨hw, h4⟩
        · refine .inl ⟨hw, fun l w' hcl' hun hc => ?_⟩
          obtain ⟨v, m, hrun, hv⟩ := h4 w' fun f hfm => hc f (List.mem_append_left _ hfm) fun d od hd hnq hl => by
            cases hwt : waitsFar ops.toArray f.1 4 od with
            | false => rfl
            | true =>
              exfalso
              obtain ⟨ed, hed, hb, hbe⟩ := waitsFar_spec 4 hwt
              have h1 := hcl' d od hd hl ed hed hb
              rw [h3 f hfm] at hbe
              rw [hbe.unlisted hcl' hun] at h1
              cases h1
          exact ⟨v, m, hrun, hv⟩
        · exact .inr ⟨hw, h4⟩
      · intro v hv
        obtain ⟨e', hr', hk⟩ := h1 v hv
        exact (ih r (listed.setIfInBounds k true) (F ++ H) e' (a.put o.dst v) w hclk hr' (hf.trans (Fr.put (fun t ht => hp o hmem t ht) v)) ((hCi _ _).2 hCF) hk).1 hB'
    | e k r _ =>
      intro listed H e a w hcl hr hf hC h
      have body : ∀ chk, ordOk T ops.toArray (.e k r) chk (fuel + 1) listed = true → ordOk T ops.toArray r true fuel (listed.setIfInBounds k true) = true := by
        intro chk hB
        simp only [ordOk, Bool.and_eq_true] at hB
        exact hB.2
      refine ⟨fun hB m => ?_, fun f hfu hB k' hk' hrd m => ?_⟩
      · have hb := body true hB
        simp only [ordOk, Bool.and_eq_true] at hB
        have hall := hB.1.1
        simp only [Bool.not_true, Bool.false_or, Bool.and_eq_true, List.all_eq_true] at hall
        replace hall := hall.2
        have only : ∀ j ∈ Region.ready .any ops.toArray listed, j = k := fun j hj => by have := hall j hj; simpa using this
        refine ⟨fun hnil => ?_, fun i hi => ?_⟩
        · have hne := hB.1.1
          rw [hnil] at hne
          simp at hne
        · obtain rfl := only i hi
          exact actE i r listed H e a w hcl hr hf h hb hi m
      · have hb := body false hB
        simp only [heads, List.mem_singleton] at hk'
        subst hk'
        cases hfu
        exact actE k' r listed H e a w hcl hr hf h hb hrd m
    | alt x y ihx ihy =>
      intro listed H e a w hcl hr hf hC h
      obtain ⟨h1, h2⟩ := h
      have hx := ihx listed H e a w hcl hr hf hC h1
      have hy := ihy listed H e a w hcl hr hf hC h2
      have both : ∀ chk, ordOk T ops.toArray (.alt x y) chk (fuel + 1) listed = true → ∀ k ∈ heads (.alt x y), k ∈ Region.ready .any ops.toArray listed → ∀ m, wpOp P ops.toArray Q k (fun a' w' => Cof ops.toArray H (listed.setIfInBounds k true) w' ∧ wpC P ops.toArray Q (Cof ops.toArray H) fuel (listed.setIfInBounds k true) a' w') a (w.drewN m) := by
        intro chk hB k hk hrd m
        simp only [ordOk, Bool.and_eq_true] at hB
        rcases List.mem_append.1 hk with hk | hk
        · exact hx.2 fuel rfl hB.1.2 k hk hrd m
        · exact hy.2 fuel rfl hB.2 k hk hrd m
      refine ⟨fun hB m => ?_, fun f hfu hB k hk hrd m => by cases hfu; exact both false hB k hk hrd m⟩
      have hb := both true hB
      simp only [ordOk, Bool.and_eq_true] at hB
      have hall := hB.1.1
      simp only [Bool.not_true, Bool.false_or, Bool.and_eq_true, List.all_eq_true] at hall
      refine ⟨fun hnil => ?_, fun i hi => ?_⟩
      · have hne := hall.1
        rw [hnil] at hne
        simp at hne
      · exact hb i (by have := hall.2 i hi; simpa using this) hi m

theorem closedL_none (ops : Array Oper) (m : Nat) : closedL ops (Array.replicate m false) := by
  intro j oj _ hl
  rw [getD_replicate_false] at hl
  cases hl

/-- REGIONS. -/
theorem regionD_ok (hT : TOk P T) (hZ : TSize T) (hm : P.follows .mixedOrders = true) {id : Nat} {ops : Array Oper} {draw : Bool} {ord : Option Ord} {e : Env} {a : Act} {w : World} {K : Env → World → Prop} (hr : Rel n e a)
    (h : regionD P T n ops.toList draw ord e w K) {p : Nat → Prop} (hp : ∀ o ∈ ops.toList, ∀ t, o.dst = some t → p t) (hQp : ∀ c a w, ¬ Q (.panic c) a w)
    (hQ : ∀ e' a' w', Rel n e' a' → Fr p a a' → K e' w' → Q .normal a' w') : (Code.region id ops draw).wp P Q a w := by
  unfold regionD at h
  split at h
  · refine wp_region_list ?_
    have := opsD_ok (Q := Q) hT hZ hr h a p hp (Fr.refl _ _) hQ
    simpa using this
  · rename_i o
    obtain ⟨hB, h⟩ := cond_true h
    have hB2 : Region.noSelect ops = true ∧ ordOk T ops o true ops.size (Array.replicate ops.size false) = true := by
      cases hs : Region.noSelect ops.toList.toArray with
      | false => rw [hs] at hB; cases hB
      | true => rw [hs] at hB; exact ⟨rfl, by simpa using hB⟩
    refine wp_region_any hm (wpAny_of_C (C := Cof ops []) _ _ _ _ ?_)
    have := (opsO_ok (Q := Q) (a0 := a) hT hZ (ops := ops.toList) hB2.1 hQp hp hQ ops.size o (Array.replicate ops.size false) [] e a w (closedL_none _ _) hr (Fr.refl _ _) (by intro f hf; cases hf) h).1 hB2.2
    have := wpC_drew this 1
    simpa [World.drew_is_drewN] using this
  · exact h.elim

end
end Go.Eng
