/-
  What an operation that only looks yields does not hang on the world, but for the cells that it read. No condition.
-/
import Derived.Test.YtmecjaojkegamaaDoorRegs2
set_option linter.unusedVariables false
set_option linter.unusedSimpArgs false
set_option linter.unnecessarySimpa false
set_option linter.unusedSectionVars false
namespace Go.Eng
open Go

section
variable {P : Program} {T : Nat → Option TI}

theorem bindL_mk {α : Type} {o : Option α} {v : α} {K : α → Prop} (h : o = some v) (hk : K v) : bindL o K := by subst h; exact hk
theorem bindV_mk {o : Option Value} {v : Value} {K : Value → Prop} (h : o = some v) (hk : K v) : bindV o K := by subst h; exact hk
theorem optM_mk {α : Type} {o : Option α} {v : α} {K : α → Prop} (h : o = some v) (hk : K v) : optM o K := by subst h; exact hk
theorem cond_mk {b : Bool} {A : Prop} (h : b = true) (hk : A) : cond b A False := by subst h; exact hk

theorem binInt_det {op : BinOp} {k : IntKind} {a b : Int} {K : Value → Prop} (h : binInt op k a b K) : ∃ v, K v ∧ ∀ K' : Value → Prop, K' v → binInt op k a b K' := by
  cases op <;> simp only [binInt] at h ⊢ <;> (first | exact h.elim | exact ⟨_, h, fun _ hk => hk⟩ | exact ⟨_, h.2, fun _ hk => ⟨h.1, hk⟩⟩)

def isArith (op : BinOp) : Bool := match op with | .add | .sub | .mul | .quo => true | _ => false

theorem binD_det {ti : TI} {op : BinOp} {x y : Value} {w : World} {K : Value → Prop} (hd : ∀ k, ti.d = .float k → isArith op = false) (h : binD ti op x y w fun v _ => K v) :
    ∃ v, K v ∧ ∀ (w' : World) (K' : Value → World → Prop), K' v w' → binD ti op x y w' K' := by
  unfold binD at h
  split at h
  · split at h
    · exact ⟨_, h.2, fun w' K' hk => ⟨h.1, hk⟩⟩
    · exact ⟨_, h.2, fun w' K' hk => ⟨h.1, hk⟩⟩
    · rename_i op' h1 h2
      obtain ⟨hk, h⟩ := cond_true h
      obtain ⟨v, hv, hb⟩ := binInt_det h
      refine ⟨v, hv, fun w' K' hk' => ?_⟩
      have hb' := hb (fun u => K' u w') hk'
      unfold binD
      cases op <;> first | exact cond_mk hk hb' | exact (h1 rfl).elim | exact (h2 rfl).elim
  · rename_i a b
    split at h
    · rename_i k hb
      have := hd k hb
      cases op <;> (try (cases this; done)) <;> simp only [binFlt] at h <;> first | exact h.elim | exact ⟨_, h, fun w' K' hk => by simp only [binD, hb]; exact hk⟩
    · exact h.elim
  · split at h
    · rename_i hb
      split at h
      · exact ⟨_, h, fun w' K' hk => by simp only [binD, hb]; exact hk⟩
      · exact ⟨_, h, fun w' K' hk => by simp only [binD, hb]; exact hk⟩
      · exact h.elim
    · exact h.elim
  · split at h
    · rename_i hb
      split at h
      · exact ⟨_, h, fun w' K' hk => by simp only [binD, hb]; exact hk⟩
      · exact ⟨_, h, fun w' K' hk => by simp only [binD, hb]; exact hk⟩
      · exact h.elim
    · exact h.elim
  · split at h
    · rename_i hb
      split at h
      · exact ⟨_, h, fun w' K' hk => by simp only [binD, hb]; exact hk⟩
      · exact ⟨_, h, fun w' K' hk => by simp only [binD, hb]; exact hk⟩
      · exact h.elim
    · exact h.elim
  · split at h
    · exact ⟨_, h, fun w' K' hk => hk⟩
    · exact ⟨_, h, fun w' K' hk => hk⟩
    · exact h.elim
  · exact h.elim

theorem unD_det {op : UnOp} {x : Value} {K : Value → Prop} (h : unD op x K) : ∃ v, K v ∧ ∀ K' : Value → Prop, K' v → unD op x K' := by
  unfold unD at h
  split at h
  · exact ⟨_, h, fun _ hk => hk⟩
  · exact ⟨_, h, fun _ hk => hk⟩
  · exact ⟨_, h, fun _ hk => hk⟩
  · exact ⟨_, h, fun _ hk => hk⟩
  · exact h.elim

theorem sliceD_det {s : Nat} {a : Option Addr} {l c : Nat} {lo hi mx : Option Value} {K : Value → Prop} (h : sliceD s a l c lo hi mx K) : ∃ v, K v ∧ ∀ K' : Value → Prop, K' v → sliceD s a l c lo hi mx K' := by
  unfold sliceD at h
  split at h
  · exact ⟨_, h, fun K' hk => hk⟩
  · exact ⟨_, h.2.2, fun K' hk => ⟨h.1, h.2.1, hk⟩⟩
  · exact ⟨_, h.2.2, fun K' hk => ⟨h.1, h.2.1, hk⟩⟩
  · obtain ⟨h1, h2, h3, h4, h⟩ := h; exact ⟨_, h, fun K' hk => ⟨h1, h2, h3, h4, hk⟩⟩
  · obtain ⟨h1, h2, h3, h4, h5, h6, h⟩ := h; exact ⟨_, h, fun K' hk => ⟨h1, h2, h3, h4, h5, h6, hk⟩⟩
  · exact h.elim

theorem len_det {ts : List Nat} {args : List Value} {w : World} {K : Value → Prop} (h : builtinD T .len ts args w fun v _ => K v) :
    ∃ v, K v ∧ ∀ (w' : World) (K' : Value → World → Prop), K' v w' → builtinD T .len ts args w' K' := by
  unfold builtinD at h
  split at h <;> (try (rename_i hx; cases hx; done)) <;> (try exact h.elim)
  all_goals (
    replace h := bindL_some h
    obtain ⟨t, ht, h⟩ := h
    replace h := bindL_some h
    obtain ⟨ti, hti, h⟩ := h)
  case h_3 =>
    split at h
    · rename_i e1
      replace h := bindL_some h
      obtain ⟨te, hte, h⟩ := h
      split at h
      · rename_i e2
        exact ⟨_, h, fun w' K' hk => bindL_mk ht (bindL_mk hti (by simp only [e1]; exact bindL_mk hte (by simp only [e2]; exact hk)))⟩
      · exact h.elim
    · exact h.elim
  all_goals (
    split at h
    · rename_i e1
      exact ⟨_, h, fun w' K' hk => bindL_mk ht (bindL_mk hti (by simp only [e1]; exact hk))⟩
    · exact h.elim)

theorem cap_det {ts : List Nat} {args : List Value} {w : World} {K : Value → Prop} (h : builtinD T .cap ts args w fun v _ => K v) :
    ∃ v, K v ∧ ∀ (w' : World) (K' : Value → World → Prop), K' v w' → builtinD T .cap ts args w' K' := by
  unfold builtinD at h
  split at h <;> (try (rename_i hx; cases hx; done)) <;> (try exact h.elim)
  all_goals (
    replace h := bindL_some h
    obtain ⟨t, ht, h⟩ := h
    replace h := bindL_some h
    obtain ⟨ti, hti, h⟩ := h)
  all_goals (
    split at h
    · rename_i e1
      exact ⟨_, h, fun w' K' hk => bindL_mk ht (bindL_mk hti (by simp only [e1]; exact hk))⟩
    · exact h.elim)

/-- An operation that only looks, loads nothing and cannot draw: one value, in every world. -/
theorem opD_det {e : Env} {ty : Nat} {op : Op} {w : World} {K : Value → Prop} (hq : quiet op = true) (hl : ∀ t a, op ≠ .load t a) (hd : draws T op = false) (h : opD P T e ty op w fun v _ => K v) :
    ∃ v, K v ∧ ∀ (w' : World) (K' : Value → World → Prop), K' v w' → opD P T e ty op w' K' := by
  cases op <;> (try (cases hq; done))
  case move x => replace h := bindV_some h; obtain ⟨v, hv, h⟩ := h; exact ⟨v, h, fun w' K' hk => bindV_mk hv hk⟩
  case assign x => replace h := bindV_some h; obtain ⟨v, hv, h⟩ := h; exact ⟨v, h, fun w' K' hk => bindV_mk hv hk⟩
  case pick c a b =>
    replace h := bindV_some h; obtain ⟨v, hv, h⟩ := h
    split at h
    · rename_i t
      rcases cond_or h with ⟨rfl, h⟩ | ⟨rfl, h⟩
      · replace h := bindV_some h; obtain ⟨u, hu, h⟩ := h; exact ⟨u, h, fun w' K' hk => bindV_mk hv (bindV_mk hu hk)⟩
      · replace h := bindV_some h; obtain ⟨u, hu, h⟩ := h; exact ⟨u, h, fun w' K' hk => bindV_mk hv (bindV_mk hu hk)⟩
    · exact h.elim
  case build t ps =>
    replace h := bindL_some h; obtain ⟨ti, hti, h⟩ := h
    split at h
    · rename_i fs hfs
      replace h := bindL_some h; obtain ⟨pl, hpl, h⟩ := h
      replace h := bindL_some h; obtain ⟨vs, hvs, h⟩ := h
      replace h := bindL_some h; obtain ⟨cs, hcs, h⟩ := h
      exact ⟨_, h, fun w' K' hk => bindL_mk hti (by simp only [hfs]; exact bindL_mk hpl (bindL_mk hvs (bindL_mk hcs hk)))⟩
    · rename_i n el hfs
      replace h := bindL_some h; obtain ⟨pl, hpl, h⟩ := h
      replace h := bindL_some h; obtain ⟨vs, hvs, h⟩ := h
      replace h := bindL_some h; obtain ⟨cs, hcs, h⟩ := h
      exact ⟨_, h, fun w' K' hk => bindL_mk hti (by simp only [hfs]; exact bindL_mk hpl (bindL_mk hvs (bindL_mk hcs hk)))⟩
    · exact h.elim
  case load t a => exact absurd rfl (hl t a)
  case nilCheck x =>
    replace h := bindV_some h; obtain ⟨v, hv, h⟩ := h
    split at h
    · replace h := optM_some h; obtain ⟨a, ha, h⟩ := h; exact ⟨_, h, fun w' K' hk => bindV_mk hv (optM_mk ha hk)⟩
    · exact ⟨_, h, fun w' K' hk => bindV_mk hv hk⟩
    · exact h.elim
  case binOp bop t x y t2 =>
    replace h := bindL_some h; obtain ⟨ti, hti, h⟩ := h
    replace h := bindV_some h; obtain ⟨a, ha, h⟩ := h
    replace h := bindV_some h; obtain ⟨b, hb, h⟩ := h
    simp only [draws, hti] at hd
    obtain ⟨v, hv, hall⟩ := binD_det (fun k hk => by
      rw [hk] at hd
      cases bop <;> first | rfl | (cases hd)) h
    exact ⟨v, hv, fun w' K' hk => bindL_mk hti (bindV_mk ha (bindV_mk hb (hall w' K' hk)))⟩
  case unOp uop t x =>
    replace h := bindV_some h; obtain ⟨v, hv, h⟩ := h
    obtain ⟨u, hu, h⟩ := unD_det h
    exact ⟨u, hu, fun w' K' hk => bindV_mk hv (h (fun u => K' u w') hk)⟩
  case convert s d x =>
    replace h := bindL_some h; obtain ⟨ts, hts, h⟩ := h
    replace h := bindL_some h; obtain ⟨td, htd, h⟩ := h
    replace h := bindV_some h; obtain ⟨v, hv, h⟩ := h
    simp only [draws, hts, htd] at hd
    unfold convD at h
    split at h
    · rename_i e1 e2; exact ⟨_, h, fun w' K' hk => bindL_mk hts (bindL_mk htd (bindV_mk hv (by simp only [convD, e1, e2]; exact hk)))⟩
    · rename_i e1 e2; exact ⟨_, h, fun w' K' hk => bindL_mk hts (bindL_mk htd (bindV_mk hv (by simp only [convD, e1, e2]; exact hk)))⟩
    · rename_i e1 e2; rw [e1, e2] at hd; cases hd
    · rename_i e1 e2; exact ⟨_, h, fun w' K' hk => bindL_mk hts (bindL_mk htd (bindV_mk hv (by simp only [convD, e1, e2]; exact hk)))⟩
    · exact h.elim
  case makeFunc fn a b =>
    replace h := bindL_some h; obtain ⟨va, hva, h⟩ := h
    replace h := bindL_some h; obtain ⟨vb, hvb, h⟩ := h
    exact ⟨_, h, fun w' K' hk => bindL_mk hva (bindL_mk hvb hk)⟩
  case slice t x lo hi mx =>
    replace h := bindL_some h; obtain ⟨ti, hti, h⟩ := h
    replace h := bindV_some h; obtain ⟨v, hv, h⟩ := h
    replace h := bindL_some h; obtain ⟨l, hl1, h⟩ := h
    replace h := bindL_some h; obtain ⟨hh, hh1, h⟩ := h
    replace h := bindL_some h; obtain ⟨m, hm, h⟩ := h
    split at h
    · rename_i e1
      replace h := bindL_some h; obtain ⟨s, hs, h⟩ := h
      obtain ⟨u, hu, hall⟩ := sliceD_det h
      exact ⟨u, hu, fun w' K' hk => bindL_mk hti (bindV_mk hv (bindL_mk hl1 (bindL_mk hh1 (bindL_mk hm (by simp only [e1]; exact bindL_mk hs (hall (fun u => K' u w') hk))))))⟩
    · rename_i e1
      replace h := optM_some h; obtain ⟨a, ha, h⟩ := h
      replace h := bindL_some h; obtain ⟨s, hs, h⟩ := h
      obtain ⟨u, hu, hall⟩ := sliceD_det h
      exact ⟨u, hu, fun w' K' hk => bindL_mk hti (bindV_mk hv (bindL_mk hl1 (bindL_mk hh1 (bindL_mk hm (by simp only [e1]; exact optM_mk ha (bindL_mk hs (hall (fun u => K' u w') hk)))))))⟩
    · exact h.elim
  case fieldAddr t x i =>
    replace h := bindL_some h; obtain ⟨ti, hti, h⟩ := h
    split at h
    · rename_i fs e1
      replace h := bindL_some h; obtain ⟨f, hf, h⟩ := h
      replace h := bindL_some h; obtain ⟨s, hs, h⟩ := h
      rcases cond_or h with ⟨_, h⟩ | ⟨hb, h⟩
      · exact h.elim
      replace h := bindV_some h; obtain ⟨v, hv, h⟩ := h
      split at h
      · replace h := optM_some h; obtain ⟨a, ha, h⟩ := h
        exact ⟨_, h, fun w' K' hk => bindL_mk hti (by simp only [e1]; exact bindL_mk hf (bindL_mk hs (by rw [hb]; exact bindV_mk hv (optM_mk ha hk))))⟩
      · exact h.elim
    · exact h.elim
  case field t x i =>
    replace h := bindL_some h; obtain ⟨ti, hti, h⟩ := h
    split at h
    · rename_i fs e1
      replace h := bindL_some h; obtain ⟨f, hf, h⟩ := h
      replace h := bindL_some h; obtain ⟨s, hs, h⟩ := h
      replace h := bindV_some h; obtain ⟨v, hv, h⟩ := h
      split at h
      · rcases cond_or h with ⟨hb, h⟩ | ⟨hb, h⟩
        · exact ⟨_, h, fun w' K' hk => bindL_mk hti (by simp only [e1]; exact bindL_mk hf (bindL_mk hs (bindV_mk hv (by simp only [hb]; exact hk))))⟩
        · replace h := bindL_some h; obtain ⟨u, hu, h⟩ := h
          exact ⟨_, h, fun w' K' hk => bindL_mk hti (by simp only [e1]; exact bindL_mk hf (bindL_mk hs (bindV_mk hv (by simp only [hb]; exact bindL_mk hu hk))))⟩
      · exact h.elim
    · exact h.elim
  case indexAddr t x ix =>
    replace h := bindL_some h; obtain ⟨ti, hti, h⟩ := h
    replace h := bindV_some h; obtain ⟨v, hv, h⟩ := h
    replace h := bindV_some h; obtain ⟨vi, hvi, h⟩ := h
    split at h
    · rename_i e1
      replace h := bindL_some h; obtain ⟨s, hs, h0, h1, h⟩ := h
      replace h := optM_some h; obtain ⟨a, ha, h⟩ := h
      exact ⟨_, h, fun w' K' hk => bindL_mk hti (bindV_mk hv (bindV_mk hvi (by simp only [e1]; exact bindL_mk hs ⟨h0, h1, optM_mk ha hk⟩)))⟩
    · rename_i e1
      replace h := bindL_some h; obtain ⟨s, hs, h0, h1, h⟩ := h
      replace h := optM_some h; obtain ⟨a, ha, h⟩ := h
      exact ⟨_, h, fun w' K' hk => bindL_mk hti (bindV_mk hv (bindV_mk hvi (by simp only [e1]; exact bindL_mk hs ⟨h0, h1, optM_mk ha hk⟩)))⟩
    · exact h.elim
  case index t x ix =>
    replace h := bindL_some h; obtain ⟨ti, hti, h⟩ := h
    replace h := bindV_some h; obtain ⟨v, hv, h⟩ := h
    replace h := bindV_some h; obtain ⟨vi, hvi, h⟩ := h
    split at h
    · rename_i e1
      replace h := bindL_some h; obtain ⟨te, hte, h⟩ := h
      rcases cond_or h with ⟨_, h⟩ | ⟨hb, h0, h1, u, hu, h⟩
      · exact h.elim
      exact ⟨_, h, fun w' K' hk => bindL_mk hti (bindV_mk hv (bindV_mk hvi (by simp only [e1]; exact bindL_mk hte (by rw [hb]; exact ⟨h0, h1, u, hu, hk⟩))))⟩
    · rename_i e1
      obtain ⟨h0, b, hb, h⟩ := h
      exact ⟨_, h, fun w' K' hk => bindL_mk hti (bindV_mk hv (bindV_mk hvi (by simp only [e1]; exact ⟨h0, b, hb, hk⟩)))⟩
    · exact h.elim
  case extract x i =>
    replace h := bindV_some h; obtain ⟨v, hv, h⟩ := h
    split at h
    · replace h := bindL_some h; obtain ⟨u, hu, h⟩ := h
      exact ⟨_, h, fun w' K' hk => bindV_mk hv (bindL_mk hu hk)⟩
    · exact h.elim
  case call c =>
    replace h := bindL_some h; obtain ⟨args, hargs, h⟩ := h
    obtain ⟨callee, cargs, ts⟩ := c
    cases callee <;> simp only [quiet] at hq <;> (try (cases hq; done))
    rename_i b
    have h' : builtinD T b ts.toList args w fun v _ => K v := h
    suffices hs : ∃ v, K v ∧ ∀ (w' : World) (K' : Value → World → Prop), K' v w' → builtinD T b ts.toList args w' K' by
      obtain ⟨v, hv, hall⟩ := hs
      exact ⟨v, hv, fun w' K' hk => bindL_mk hargs (hall w' K' hk)⟩
    cases b <;> simp only [quietB] at hq <;> (try (cases hq; done)) <;> simp only [draws] at hd <;> (try (cases hd; done))
    case cap => exact cap_det h'
    case len => exact len_det h'

theorem binD_any {ti : TI} {op : BinOp} {x y : Value} {w : World} {K : Value → Prop} (h : binD ti op x y w fun v _ => K v) (w' : World) : binD ti op x y w' fun v w1 => K v ∧ ∃ m, w1 = w'.drewN m := by
  by_cases hf : ∃ a b k, x = .float .f64 a ∧ y = .float .f64 b ∧ ti.d = .float k
  · obtain ⟨a, b, k, rfl, rfl, hk⟩ := hf
    simp only [binD, hk] at h ⊢
    cases op <;> simp only [binFlt, FRes] at h ⊢ <;> (try exact h.elim) <;> first | exact ⟨h, 0, rfl⟩ | exact fun r d hr => ⟨h r d hr, d, rfl⟩
  · unfold binD at h
    split at h
    · split at h
      · exact ⟨h.1, h.2, 0, rfl⟩
      · exact ⟨h.1, h.2, 0, rfl⟩
      · rename_i op' h1 h2
        obtain ⟨hk, h'⟩ := cond_true h
        obtain ⟨v, hv, hb⟩ := binInt_det h'
        have hb' := hb (fun u => K u ∧ ∃ m, w' = w'.drewN m) ⟨hv, 0, rfl⟩
        unfold binD
        cases op <;> first | exact cond_mk hk hb' | exact (h1 rfl).elim | exact (h2 rfl).elim
    · split at h
      · rename_i k hb
        exact absurd ⟨_, _, k, rfl, rfl, hb⟩ hf
      · exact h.elim
    · split at h
      · rename_i hb
        split at h <;> first | (simp only [binD, hb]; exact ⟨h, 0, rfl⟩) | exact h.elim
      · exact h.elim
    · split at h
      · rename_i hb
        split at h <;> first | (simp only [binD, hb]; exact ⟨h, 0, rfl⟩) | exact h.elim
      · exact h.elim
    · split at h
      · rename_i hb
        split at h <;> first | (simp only [binD, hb]; exact ⟨h, 0, rfl⟩) | exact h.elim
      · exact h.elim
    · split at h <;> first | exact ⟨h, 0, rfl⟩ | exact h.elim
    · exact h.elim

theorem convD_any {s d : TD} {x : Value} {w : World} {K : Value → Prop} (h : convD s d x w fun v _ => K v) (w' : World) : convD s d x w' fun v w1 => K v ∧ ∃ m, w1 = w'.drewN m := by
  unfold convD at h ⊢
  split at h
  · exact ⟨h, 0, rfl⟩
  · exact ⟨h, 0, rfl⟩
  · exact ⟨fun n hn => ⟨h.1 n hn, 0, rfl⟩, fun hn n d hw => ⟨h.2 hn n d hw, d, rfl⟩⟩
  · exact ⟨h, 0, rfl⟩
  · exact h.elim

theorem mm2_any {b : Bool} {x y : Value} {w : World} {K : Value → Prop} (h : mm2 b x y w fun v _ => K v) (w' : World) : mm2 b x y w' fun v w1 => K v ∧ ∃ m, w1 = w'.drewN m := by
  unfold mm2 at h ⊢
  split at h
  · obtain ⟨hk, h⟩ := cond_true h
    exact cond_mk hk ⟨h, 0, rfl⟩
  · rename_i p q
    unfold fmaxD at h ⊢
    cases ho : Ieee.double.order p q with
    | none => rw [ho] at h; exact fun r d hr => ⟨h r d hr, d, rfl⟩
    | some o => rw [ho] at h; cases o <;> exact ⟨h, 0, rfl⟩
  · exact h.elim

theorem mm2_mono {b : Bool} {x y : Value} {w : World} {K K' : Value → World → Prop} (hk : ∀ v w, K v w → K' v w) (h : mm2 b x y w K) : mm2 b x y w K' := by
  unfold mm2 at h ⊢
  split at h
  · obtain ⟨hb, h⟩ := cond_true h
    exact cond_mk hb (hk _ _ h)
  · rename_i p q
    unfold fmaxD at h ⊢
    cases ho : Ieee.double.order p q with
    | none => rw [ho] at h; exact fun r d hr => hk _ _ (h r d hr)
    | some o => rw [ho] at h; cases o <;> exact hk _ _ h
  · exact h.elim

theorem mmD_mono {b : Bool} : ∀ {ys : List Value} {x : Value} {w : World} {K K' : Value → World → Prop}, (∀ v w, K v w → K' v w) → mmD b x ys w K → mmD b x ys w K'
  | [], _, _, _, _, hk, h => hk _ _ h
  | _ :: _, _, _, _, _, hk, h => mm2_mono (fun _ _ h => mmD_mono hk h) h

theorem mmD_any {b : Bool} : ∀ {ys : List Value} {x : Value} {w : World} {K : Value → Prop}, mmD b x ys w (fun v _ => K v) → ∀ w', mmD b x ys w' fun v w1 => K v ∧ ∃ m, w1 = w'.drewN m
  | [], x, w, K, h, w' => ⟨h, 0, rfl⟩
  | y :: ys, x, w, K, h, w' => by
    have h1 : mm2 b x y w fun v _ => ∀ w'', mmD b v ys w'' fun v w1 => K v ∧ ∃ m, w1 = w''.drewN m := mm2_mono (fun v w1 h => mmD_any h) h
    refine mm2_mono (fun v w1 hh => ?_) (mm2_any h1 w')
    obtain ⟨hh, m, rfl⟩ := hh
    refine mmD_mono (fun v w1 hh => ?_) (hh (w'.drewN m))
    obtain ⟨hk, m', rfl⟩ := hh
    exact ⟨hk, m + m', by rw [World.drewN_drewN]⟩

/-- An operation that only looks and loads nothing: what it may yield does not hang on the world. -/
theorem opD_any {e : Env} {ty : Nat} {op : Op} {w : World} {K : Value → Prop} (hq : quiet op = true) (hl : ∀ t a, op ≠ .load t a) (h : opD P T e ty op w fun v _ => K v) (w' : World) :
    opD P T e ty op w' fun v w1 => K v ∧ ∃ m, w1 = w'.drewN m := by
  by_cases hd : draws T op = false
  · obtain ⟨v, hv, hall⟩ := opD_det hq hl hd h
    exact hall w' _ ⟨hv, 0, rfl⟩
  · cases op <;> (try (cases hq; done)) <;> (try exact absurd rfl hd)
    case binOp bop t x y t2 =>
      replace h := bindL_some h
      obtain ⟨ti, hti, h⟩ := h
      replace h := bindV_some h
      obtain ⟨a, ha, h⟩ := h
      replace h := bindV_some h
      obtain ⟨b, hb, h⟩ := h
      exact bindL_mk hti (bindV_mk ha (bindV_mk hb (binD_any h w')))
    case convert s d x =>
      replace h := bindL_some h
      obtain ⟨ts, hts, h⟩ := h
      replace h := bindL_some h
      obtain ⟨td, htd, h⟩ := h
      replace h := bindV_some h
      obtain ⟨v, hv, h⟩ := h
      exact bindL_mk hts (bindL_mk htd (bindV_mk hv (convD_any h w')))
    case call c =>
      replace h := bindL_some h
      obtain ⟨args, hargs, h⟩ := h
      obtain ⟨callee, cargs, ts⟩ := c
      cases callee <;> simp only [quiet] at hq <;> (try (cases hq; done))
      rename_i b
      have h' : builtinD T b ts.toList args w fun v _ => K v := h
      suffices hs : builtinD T b ts.toList args w' fun v w1 => K v ∧ ∃ m, w1 = w'.drewN m from bindL_mk hargs hs
      clear h
      cases b <;> simp only [quietB] at hq <;> (try (cases hq; done)) <;> (try exact absurd rfl hd)
      all_goals (
        unfold builtinD at h'
        split at h' <;> (try (rename_i hx; cases hx; done)) <;> (try exact h'.elim)
        exact mmD_any h' w')

end
end Go.Eng
