/-
  Memory as a list of what is held in it (blocks of a call's own, slices of its own, facts on old ones), for walks that go beside a function of plain Lean ('twin'). No condition.
-/
import Derived.Test.YtlmndpgfnpleiaaHum2
set_option linter.unusedVariables false
set_option linter.unusedSimpArgs false
set_option linter.unnecessarySimpa false
set_option linter.unusedSectionVars false
namespace Go.Eng
open Go
open Go.RowKit (Below)

/-- Something held: whether it may be written, which blocks it speaks of, what it says. -/
structure It where
  own : Bool
  S : Nat → Prop
  A : World → Prop
  st : ∀ w w' : World, (∀ b, S b → w'.heap[b]? = w.heap[b]?) → A w → A w'

structure Ho (w0 w : World) (L : List It) : Prop where
  below : Below w0.heap.size w0 w
  hold : ∀ e ∈ L, e.A w
  lt : ∀ e ∈ L, ∀ b, e.S b → b < w.heap.size
  new : ∀ e ∈ L, e.own = true → ∀ b, e.S b → w0.heap.size ≤ b
  sep : L.Pairwise fun x y => x.own = true ∨ y.own = true → ∀ b, x.S b → ¬ y.S b

/-- Whatever holds L holds A, too. -/
def Ent (L : List It) (A : World → Prop) : Prop := ∀ (w0 w : World) (L' : List It), (∀ e, e ∈ L → e ∈ L') → Ho w0 w L' → A w

theorem Ent.now {L L' : List It} {A : World → Prop} {w0 w : World} (h : Ent L A) (hL : ∀ e, e ∈ L → e ∈ L') (hS : Ho w0 w L') : A w := h w0 w L' hL hS
theorem Ent.mono {L L' : List It} {A : World → Prop} (h : Ent L A) (hL : ∀ e, e ∈ L → e ∈ L') : Ent L' A := fun w0 w L'' h2 hS => h w0 w L'' (fun e he => h2 e (hL e he)) hS
theorem Ent.imp {L : List It} {A B : World → Prop} (h : Ent L A) (k : ∀ w, A w → B w) : Ent L B := fun w0 w L' hL hS => k w (h w0 w L' hL hS)
theorem Ent.of {L : List It} {e : It} (h : e ∈ L) : Ent L e.A := fun _ _ _ hL hS => hS.hold e (hL e h)

theorem incl_cons {L L' : List It} {x : It} (hx : x ∈ L') (h : ∀ e, e ∈ L → e ∈ L') : ∀ e, e ∈ x :: L → e ∈ L' := by
  intro e he
  rcases List.mem_cons.1 he with rfl | he
  · exact hx
  · exact h e he

/-! ### Worlds that turn -/

theorem Ho.same {w0 w w' : World} {L : List It} (h : Ho w0 w L) (hb : Below w0.heap.size w w') (hk : ∀ e ∈ L, ∀ b, e.S b → w'.heap[b]? = w.heap[b]?) : Ho w0 w' L :=
  ⟨h.below.trans hb, fun e he => e.st w w' (hk e he) (h.hold e he), fun e he b hS => Nat.lt_of_lt_of_le (h.lt e he b hS) hb.size, h.new, h.sep⟩

theorem Ho.later {w0 w w' : World} {L : List It} (h : Ho w0 w L) (hb : Below w.heap.size w w') : Ho w0 w' L :=
  h.same (hb.mono h.below.size) fun e he b hS => hb.block b (h.lt e he b hS)

theorem Ho.next {w0 w w' : World} {L : List It} {M : List (Nat × Array Value × Nat)} (h : Ho w0 w L) (k : St w w' M) : Ho w0 w' L := h.later k.below

theorem Ho.drew {w0 w : World} {L : List It} (h : Ho w0 w L) (d : Nat) : Ho w0 (w.drewN d) L := h.later ⟨rfl, rfl, rfl, Nat.le_refl _, fun _ _ => rfl⟩

/-- The item at the front is put for another one, which speaks of the same blocks or of new ones. -/
theorem Ho.put {w0 w w' : World} {B : List It} {x y : It} (h : Ho w0 w (x :: B)) (hx : x.own = true) (hb : Below w0.heap.size w w')
    (hk : ∀ b, b < w.heap.size → ¬ x.S b → w'.heap[b]? = w.heap[b]?) (hA : y.A w') (hlt : ∀ b, y.S b → b < w'.heap.size) (hS : ∀ b, y.S b → x.S b ∨ w.heap.size ≤ b) : Ho w0 w' (y :: B) := by
  have hsep := List.pairwise_cons.1 h.sep
  refine ⟨h.below.trans hb, fun e he => ?_, fun e he b hSb => ?_, fun e he ho b hSb => ?_, ?_⟩
  · rcases List.mem_cons.1 he with rfl | he
    · exact hA
    · refine e.st w w' (fun b hSb => hk b (h.lt e (List.mem_cons_of_mem _ he) b hSb) fun hx' => hsep.1 e he (.inl hx) b hx' hSb) (h.hold e (List.mem_cons_of_mem _ he))
  · rcases List.mem_cons.1 he with rfl | he
    · exact hlt b hSb
    · exact Nat.lt_of_lt_of_le (h.lt e (List.mem_cons_of_mem _ he) b hSb) hb.size
  · rcases List.mem_cons.1 he with rfl | he
    · rcases hS b hSb with h1 | h1
      · exact h.new x (List.mem_cons_self ..) hx b h1
      · exact Nat.le_trans h.below.size h1
    · exact h.new e (List.mem_cons_of_mem _ he) ho b hSb
  · refine List.pairwise_cons.2 ⟨fun e he _ b hy he' => ?_, hsep.2⟩
    rcases hS b hy with h1 | h1
    · exact hsep.1 e he (.inl hx) b h1 he'
    · have := h.lt e (List.mem_cons_of_mem _ he) b he'
      omega

/-- A new item over new blocks. -/
theorem Ho.more {w0 w w' : World} {B : List It} {y : It} (h : Ho w0 w B) (hb : Below w.heap.size w w') (hA : y.A w') (hlt : ∀ b, y.S b → b < w'.heap.size) (hS : ∀ b, y.S b → w.heap.size ≤ b) : Ho w0 w' (y :: B) := by
  have h' := h.later hb
  refine ⟨h'.below, fun e he => ?_, fun e he b hSb => ?_, fun e he ho b hSb => ?_, ?_⟩
  · rcases List.mem_cons.1 he with rfl | he
    · exact hA
    · exact h'.hold e he
  · rcases List.mem_cons.1 he with rfl | he
    · exact hlt b hSb
    · exact h'.lt e he b hSb
  · rcases List.mem_cons.1 he with rfl | he
    · exact Nat.le_trans h.below.size (hS b hSb)
    · exact h'.new e he ho b hSb
  · refine List.pairwise_cons.2 ⟨fun e he _ b hy he' => ?_, h'.sep⟩
    have := h.lt e he b he'
    have := hS b hy
    omega

/-- An item that speaks of nothing. -/
theorem Ho.void {w0 w : World} {B : List It} {y : It} (h : Ho w0 w B) (hA : y.A w) (hS : ∀ b, ¬ y.S b) : Ho w0 w (y :: B) :=
  h.more (Below.refl _ _) hA (fun b hb => absurd hb (hS b)) fun b hb => absurd hb (hS b)

/-! ### Order of the items -/

theorem Ho.perm {w0 w : World} {L L' : List It} (h : Ho w0 w L) (hp : L.Perm L') : Ho w0 w L' :=
  ⟨h.below, fun e he => h.hold e (hp.mem_iff.2 he), fun e he => h.lt e (hp.mem_iff.2 he), fun e he => h.new e (hp.mem_iff.2 he),
    (List.Perm.pairwise_iff (fun {x y} hxy ho b hb hb' => hxy ho.symm b hb' hb) hp).1 h.sep⟩
theorem Ho.drop {w0 w : World} {x : It} {B : List It} (h : Ho w0 w (x :: B)) : Ho w0 w B :=
  ⟨h.below, fun e he => h.hold e (List.mem_cons_of_mem _ he), fun e he => h.lt e (List.mem_cons_of_mem _ he), fun e he => h.new e (List.mem_cons_of_mem _ he), (List.pairwise_cons.1 h.sep).2⟩
theorem Ho.sub {w0 w : World} {L M : List It} (h : Ho w0 w L) (hs : M.Sublist L) : Ho w0 w M :=
  ⟨h.below, fun e he => h.hold e (hs.subset he), fun e he => h.lt e (hs.subset he), fun e he => h.new e (hs.subset he), h.sep.sublist hs⟩

/-- The k-th, and the rest. -/
def takeAt : List It → Nat → Option (It × List It)
  | [], _ => none
  | x :: A, 0 => some (x, A)
  | x :: A, k + 1 => match takeAt A k with
    | some (y, B) => some (y, x :: B)
    | none => none

theorem takeAt_perm : ∀ {A : List It} {k : Nat} {y : It} {B : List It}, takeAt A k = some (y, B) → A.Perm (y :: B)
  | [], _, _, _, h => by simp [takeAt] at h
  | x :: A, 0, y, B, h => by simp [takeAt] at h; obtain ⟨rfl, rfl⟩ := h; exact .refl _
  | x :: A, k + 1, y, B, h => by
    simp only [takeAt] at h
    split at h
    · rename_i z C hz
      simp at h; obtain ⟨rfl, rfl⟩ := h
      exact ((takeAt_perm hz).cons x).trans (.swap _ _ _)
    · cases h

/-- Items picked one after the other (each place counted among those that are left). -/
def pickAt : List It → List Nat → Option (List It)
  | _, [] => some []
  | A, k :: ks => match takeAt A k with
    | some (y, B) => match pickAt B ks with
      | some C => some (y :: C)
      | none => none
    | none => none

theorem pickAt_ok {w0 w : World} {R : List It} : ∀ {ks : List Nat} {A C : List It}, pickAt A ks = some C → Ho w0 w (A ++ R) → Ho w0 w (C ++ R)
  | [], A, C, h, hS => by simp [pickAt] at h; subst h; exact hS.sub (List.sublist_append_right A R)
  | k :: ks, A, C, h, hS => by
    simp only [pickAt] at h
    split at h
    · rename_i y B hy
      split at h
      · rename_i D hD
        simp at h; subst h
        have h1 : Ho w0 w (y :: (B ++ R)) := hS.perm ((takeAt_perm hy).append_right R)
        have hsep := List.pairwise_cons.1 h1.sep
        have h2 := pickAt_ok hD h1.drop
        have hsub : ∀ e, e ∈ D ++ R → e ∈ B ++ R := by
          intro e he
          rcases List.mem_append.1 he with he | he
          · exact List.mem_append_left _ (pickAt_mem hD e he)
          · exact List.mem_append_right _ he
        refine ⟨h1.below, fun e he => ?_, fun e he => ?_, fun e he => ?_, List.pairwise_cons.2 ⟨fun e he => hsep.1 e (hsub e he), h2.sep⟩⟩
        · rcases List.mem_cons.1 he with rfl | he
          · exact h1.hold _ (List.mem_cons_self ..)
          · exact h2.hold e he
        · rcases List.mem_cons.1 he with rfl | he
          · exact h1.lt _ (List.mem_cons_self ..)
          · exact h2.lt e he
        · rcases List.mem_cons.1 he with rfl | he
          · exact h1.new _ (List.mem_cons_self ..)
          · exact h2.new e he
      · cases h
    · cases h
where
  pickAt_mem : ∀ {ks : List Nat} {A C : List It}, pickAt A ks = some C → ∀ e, e ∈ C → e ∈ A
    | [], A, C, h, e, he => by simp [pickAt] at h; subst h; cases he
    | k :: ks, A, C, h, e, he => by
      simp only [pickAt] at h
      split at h
      · rename_i y B hy
        split at h
        · rename_i D hD
          simp at h; subst h
          rcases List.mem_cons.1 he with rfl | he
          · exact (takeAt_perm hy).mem_iff.2 (List.mem_cons_self ..)
          · exact (takeAt_perm hy).mem_iff.2 (List.mem_cons_of_mem _ (pickAt_mem hD e he))
        · cases h
      · cases h

theorem Ho.pick {w0 w : World} {A R C : List It} (ks : List Nat) (hS : Ho w0 w (A ++ R)) (h : pickAt A ks = some C) : Ho w0 w (C ++ R) := pickAt_ok h hS

/-! ### Blocks of a call's own -/

def cl (r : Nat) (c : List Value) (t : Nat) : It := ⟨true, (· = r), fun w => w.heap[r]? = some (.cells c.toArray t (0, 0)), fun w w' h hA => by rw [h r rfl]; exact hA⟩

theorem clA_cell {r : Nat} {c : List Value} {t : Nat} {w : World} (h : (cl r c t).A w) (i : Nat) : w.cell? ⟨r, i, none⟩ = c[i]? := by
  have h' : w.heap[r]? = some (.cells c.toArray t (0, 0)) := h
  simp only [World.cell?, h']
  simp
theorem cl_lt {w : World} {r : Nat} {c : List Value} {t : Nat} (h : (cl r c t).A w) : r < w.heap.size := by
  have h' : w.heap[r]? = some (.cells c.toArray t (0, 0)) := h
  rcases Nat.lt_or_ge r w.heap.size with h1 | h1
  · exact h1
  · rw [Array.getElem?_eq_none h1] at h'; cases h'

theorem Ho.cel {w0 w : World} {L : List It} {r : Nat} {c : List Value} {t : Nat} (hS : Ho w0 w L) (hm : cl r c t ∈ L) {i : Nat} {v : Value} (h : c[i]? = some v) : w.cell? ⟨r, i, none⟩ = some v := by
  rw [clA_cell (hS.hold _ hm), h]

theorem Ho.alloc {w0 w : World} {L : List It} (hS : Ho w0 w L) (c : Array Value) (t : Nat) : Ho w0 (w.alloc (.cells c t)) (cl w.heap.size c.toList t :: L) := by
  refine hS.more ((Below.refl _ _).alloc (Nat.le_refl _) _) ?_ (fun b hb => ?_) fun b hb => ?_
  · show (w.heap.push _)[w.heap.size]? = _
    simp
  · have hb' : b = w.heap.size := hb
    subst hb'
    show w.heap.size < (w.heap.push _).size
    simp
  · have hb' : b = w.heap.size := hb
    omega

section
variable {w0 w : World} {L : List It}

theorem newM_s {c : Array Value} {t : Nat} {K : Addr → World → Prop} (hS : Ho w0 w L) (hk : ∀ (r : Nat) (w' : World), Ho w0 w' (cl r c.toList t :: L) → K ⟨r, 0, none⟩ w') : newM c t w K := hk _ _ (hS.alloc c t)
theorem drM_s {K : World → Prop} (hS : Ho w0 w L) (hk : ∀ w' : World, Ho w0 w' L → K w') : drM w K := fun d => hk _ (hS.drew d)
theorem optM_s {α : Type} {a : α} {K : α → Prop} (h : K a) : optM (some a) K := h

/-- A write into a block of the call's own, which stands at the front. -/
theorem stc_s {r i t : Nat} {c : List Value} {v : Value} {a : Addr} {K : World → Prop} (hS : Ho w0 w (cl r c t :: L)) (ha : a = ⟨r, i, none⟩) (hi : Nat.blt i c.length = true) (hk : ∀ w' : World, Ho w0 w' (cl r (c.set i v) t :: L) → K w') : stM a v w K := by
  subst ha
  have hi' : i < c.length := by simpa [Nat.blt, Nat.lt_iff_add_one_le] using hi
  have hA : w.heap[r]? = some (.cells c.toArray t (0, 0)) := hS.hold _ (List.mem_cons_self ..)
  have hr : r < w.heap.size := cl_lt (hS.hold _ (List.mem_cons_self ..))
  have hn : w0.heap.size ≤ r := hS.new _ (List.mem_cons_self ..) rfl r rfl
  refine ⟨⟨⟨c[i], ?_⟩, ?_⟩, hk _ ?_⟩
  · rw [clA_cell (hS.hold _ (List.mem_cons_self ..))]; simp [hi']
  · simp [World.frozen?, hA]
  · refine hS.put rfl ((Below.refl _ _).setCell hn v) (fun b hb hne => Below.heap_setCell _ _ _ _ hne) ?_ (fun b hb => ?_) fun b hb => .inl hb
    · show (w.setCell ⟨r, i, none⟩ v).heap[r]? = _
      simp only [World.setCell, Array.getElem?_modify, hA]
      simp
    · have hb' : b = r := hb
      subst hb'
      simpa [World.setCell] using hr

end
end Go.Eng
