/-
  Whole numbers of any size behind pointers: the struct's block and the words' block together, as one item of memory that stands for a whole number. No condition.
-/
import Derived.Test.YtmecjaojkegamaaGreatDoorBgw
import Derived.Test.YtmecjaojkegamaaGreatDoorHandP
set_option linter.unusedVariables false
set_option linter.unusedSimpArgs false
set_option linter.unnecessarySimpa false
set_option linter.unusedSectionVars false
namespace Go.Eng
open Go
open Go.RowKit (Below)

/-- The words of a number as values. -/
def wds (z : Int) : List Value := (W z.natAbs).map (Value.int .u32)

/-- A pointer at r leads to z, whose words may be read. -/
def bgR (I r : Nat) (a : Option Addr) (n c : Nat) (z : Int) (w : World) : Prop :=
  (cl r [.bool (decide (z < 0)), .slice a n c] I).A w ∧ rdA (wds z) a n c w

def bgA (I E r : Nat) (a : Option Addr) (n c : Nat) (z : Int) (w : World) : Prop :=
  (cl r [.bool (decide (z < 0)), .slice a n c] I).A w ∧ slA a n c (wds z) E w ∧ ∀ x, a = some x → x.block ≠ r

/-- A whole number of a call's own. -/
def bg (I E r : Nat) (a : Option Addr) (n c : Nat) (z : Int) : It :=
  ⟨true, fun b => b = r ∨ ∃ x, a = some x ∧ x.block = b, bgA I E r a n c z, fun w w' hw h =>
    ⟨(cl r _ I).st w w' (fun b hb => hw b (.inl hb)) h.1, (sl a n c (wds z) E).st w w' (fun b hb => hw b (.inr hb)) h.2.1, h.2.2⟩⟩

theorem bgA.rd {I E r n c : Nat} {a : Option Addr} {z : Int} {w : World} (h : bgA I E r a n c z w) : bgR I r a n c z w := ⟨h.1, h.2.1.rd⟩
theorem Ent.bg {L : List It} {I E r n c : Nat} {a : Option Addr} {z : Int} (h : Go.Eng.bg I E r a n c z ∈ L) : Ent L (bgR I r a n c z) := (Ent.of h).imp fun _ k => bgA.rd k
theorem Ent.bgS {L : List It} {I r n c : Nat} {a : Option Addr} {z : Int} (h : Ent L (bgR I r a n c z)) : Ent L (cl r [.bool (decide (z < 0)), .slice a n c] I).A := h.imp fun _ k => k.1
theorem Ent.bgW {L : List It} {I r n c : Nat} {a : Option Addr} {z : Int} (h : Ent L (bgR I r a n c z)) : Ent L (rdA ((W z.natAbs).map (Value.int .u32)) a n c) := h.imp fun _ k => k.2

section
variable {w0 w : World} {L : List It} {I E r n c : Nat} {a : Option Addr} {z : Int}

/-- Opened: the struct's block, and the words' slice. -/
theorem Ho.bgOpen (h : Ho w0 w (bg I E r a n c z :: L)) : Ho w0 w (cl r [.bool (decide (z < 0)), .slice a n c] I :: sl a n c ((W z.natAbs).map (Value.int .u32)) E :: L) := by
  have hA : bgA I E r a n c z w := h.hold _ (List.mem_cons_self ..)
  have hsep := List.pairwise_cons.1 h.sep
  refine ⟨h.below, fun e he => ?_, fun e he b hb => ?_, fun e he ho b hb => ?_, ?_⟩
  · rcases List.mem_cons.1 he with rfl | he
    · exact hA.1
    rcases List.mem_cons.1 he with rfl | he
    · exact hA.2.1
    · exact h.hold e (List.mem_cons_of_mem _ he)
  · rcases List.mem_cons.1 he with rfl | he
    · exact h.lt _ (List.mem_cons_self ..) b (.inl hb)
    rcases List.mem_cons.1 he with rfl | he
    · exact h.lt _ (List.mem_cons_self ..) b (.inr hb)
    · exact h.lt e (List.mem_cons_of_mem _ he) b hb
  · rcases List.mem_cons.1 he with rfl | he
    · exact h.new _ (List.mem_cons_self ..) rfl b (.inl hb)
    rcases List.mem_cons.1 he with rfl | he
    · exact h.new _ (List.mem_cons_self ..) rfl b (.inr hb)
    · exact h.new e (List.mem_cons_of_mem _ he) ho b hb
  · refine List.pairwise_cons.2 ⟨fun e he _ b hb hb' => ?_, List.pairwise_cons.2 ⟨fun e he _ b hb hb' => hsep.1 e he (.inl rfl) b (.inr hb) hb', hsep.2⟩⟩
    rcases List.mem_cons.1 he with rfl | he
    · obtain ⟨x, hx, rfl⟩ := hb'
      exact hA.2.2 x hx hb
    · exact hsep.1 e he (.inl rfl) b (.inl hb) hb'

/-- Put together again. -/
theorem Ho.bgShut {s : Bool} {l : List Int} (h : Ho w0 w (cl r [.bool s, .slice a n c] I :: sl a n c (l.map (Value.int .u32)) E :: L)) (hs : s = decide (z < 0)) (hl : l = W z.natAbs) : Ho w0 w (bg I E r a n c z :: L) := by
  subst hs hl
  have hsep := List.pairwise_cons.1 h.sep
  have hsep2 := List.pairwise_cons.1 hsep.2
  refine ⟨h.below, fun e he => ?_, fun e he b hb => ?_, fun e he ho b hb => ?_, List.pairwise_cons.2 ⟨fun e he _ b hb hb' => ?_, hsep2.2⟩⟩
  · rcases List.mem_cons.1 he with rfl | he
    · refine ⟨h.hold _ (List.mem_cons_self ..), h.hold _ (List.mem_cons_of_mem _ (List.mem_cons_self ..)), fun x hx e => ?_⟩
      exact hsep.1 _ (List.mem_cons_self ..) (.inl rfl) r rfl ⟨x, hx, e⟩
    · exact h.hold e (List.mem_cons_of_mem _ (List.mem_cons_of_mem _ he))
  · rcases List.mem_cons.1 he with rfl | he
    · rcases hb with hb | hb
      · exact h.lt _ (List.mem_cons_self ..) b hb
      · exact h.lt _ (List.mem_cons_of_mem _ (List.mem_cons_self ..)) b hb
    · exact h.lt e (List.mem_cons_of_mem _ (List.mem_cons_of_mem _ he)) b hb
  · rcases List.mem_cons.1 he with rfl | he
    · rcases hb with hb | hb
      · exact h.new _ (List.mem_cons_self ..) rfl b hb
      · exact h.new _ (List.mem_cons_of_mem _ (List.mem_cons_self ..)) rfl b hb
    · exact h.new e (List.mem_cons_of_mem _ (List.mem_cons_of_mem _ he)) ho b hb
  · rcases hb with hb | hb
    · exact hsep.1 e (List.mem_cons_of_mem _ he) (.inl rfl) b hb hb'
    · exact hsep2.1 e he (.inl rfl) b hb hb'

/-- A new one is nought. -/
theorem Ho.bgNew (h : Ho w0 w (cl r [.bool false, .slice Option.none 0 0] I :: L)) : Ho w0 w (bg I E r Option.none 0 0 0 :: L) := by
  have h1 : Ho w0 w (sl Option.none 0 0 (([] : List Int).map (Value.int .u32)) E :: cl r [.bool false, .slice Option.none 0 0] I :: L) := h.none
  have h2 := h1.perm (List.Perm.swap _ _ L)
  exact Ho.bgShut (s := false) (l := []) h2 rfl W_zero.symm

/-- The second item is let go. -/
theorem Ho.drop2 {x y : It} (h : Ho w0 w (x :: y :: L)) : Ho w0 w (x :: L) := h.sub ((List.sublist_cons_self y L).cons_cons x)
theorem Ho.drop3 {x y z : It} (h : Ho w0 w (x :: y :: z :: L)) : Ho w0 w (x :: y :: L) := h.sub (((List.sublist_cons_self z L).cons_cons y).cons_cons x)
end

/-- The begin of a slice of one's own is one of one's own. -/
theorem Ho.cut {α : Type} {enc : α → Value} {ws : List α} {hi : Int} {w0 w : World} {L : List It} {a : Option Addr} {n c t : Nat} (hS : Ho w0 w (sl a n c (ws.map enc) t :: L)) (h : hi.toNat ≤ ws.length) :
    Ho w0 w (sl (slBase a 0 c 1) hi.toNat c (((ws.drop (0 : Int).toNat).take (hi.toNat - (0 : Int).toNat)).map enc) t :: L) := by
  rw [slBase0]
  have hA : slA a n c (ws.map enc) t w := hS.hold _ (List.mem_cons_self ..)
  have e : (ws.drop (0 : Int).toNat).take (hi.toNat - (0 : Int).toNat) = ws.take hi.toNat := by simp
  rw [e]
  refine hS.put rfl (Below.refl _ _) (fun _ _ _ => rfl) ?_ (fun b hb => hS.lt _ (List.mem_cons_self ..) b hb) fun b hb => .inl hb
  refine ⟨by simp; omega, ?_⟩
  rcases hA.2 with ⟨h1, h2, h3⟩ | ⟨r, z, h1, h2, h3⟩
  · left
    have : ws = [] := by simpa using h3
    subst this
    exact ⟨h1, h2, by simp⟩
  · right
    refine ⟨r, (ws.drop hi.toNat).map enc ++ z, h1, ?_, ?_⟩
    · rw [← List.append_assoc, ← List.map_append, List.take_append_drop]; exact h2
    · simp at h3 ⊢; omega

/-- copy. -/
def copL {α : Type} (d s : List α) : List α := s.take d.length ++ d.drop s.length
theorem copL_len {α : Type} (d s : List α) : (copL d s).length = d.length := by unfold copL; simp; omega
theorem cop_s {α : Type} {enc : α → Value} {ws ks : List α} {w0 w : World} {L : List It} {a b : Option Addr} {n c m cb t : Nat} {K : World → Prop} (hS : Ho w0 w (sl a n c (ws.map enc) t :: L)) (hk : rdA (ks.map enc) b m cb w) (hv : ∀ y, cellV (enc y) = true)
    (hK : ∀ w' : World, Ho w0 w' (sl a n c ((copL ws ks).map enc) t :: L) → K w') : copM 1 a n b m w K := by
  have hA : slA a n c (ws.map enc) t w := hS.hold _ (List.mem_cons_self ..)
  have hm : m = ks.length := by rw [hk.len, List.length_map]
  have hn : n = ws.length := by rw [hA.1, List.length_map]
  have hlen : ((ks.take ws.length).map enc).length = min m n := by simp; omega
  refine ⟨(ks.take ws.length).map enc, by rw [hlen, Nat.mul_one], ?_, ?_⟩
  · have hr := hk.row
    cases b with
    | none =>
      have : ks = [] := by simpa [rowOf] using hr
      subst this; simp [rowOf]
    | some x =>
      intro i hi
      have hi' : i < (ks.map enc).length := by simp at hi ⊢; omega
      have := hr i hi'
      rw [this]
      have h1 : i < ws.length := by simp at hi; omega
      simp [List.getElem?_take, h1]
  · obtain ⟨_, ⟨rfl, rfl, he⟩ | ⟨r, z, rfl, hr, hc⟩⟩ := hA
    · have h1 : ws = [] := by simpa using he
      subst h1
      refine hK _ ?_
      have : copL ([] : List α) ks = [] := by unfold copL; simp
      rw [this]; exact hS
    · have hlt : r < w.heap.size := by
        rcases Nat.lt_or_ge r w.heap.size with h1 | h1
        · exact h1
        · rw [Array.getElem?_eq_none h1] at hr; cases hr
      have hnew : w0.heap.size ≤ r := hS.new _ (List.mem_cons_self ..) rfl r ⟨_, rfl, rfl⟩
      have hst : St w0 w [(r, (ws.map enc ++ z).toArray, t)] := ⟨hS.below, fun e he => by
        simp only [List.mem_singleton] at he; subst he; exact ⟨hnew, hr⟩, List.pairwise_singleton _ _⟩
      obtain ⟨k1, k2⟩ := setOwn (A := []) (B := []) (vs := (ks.take ws.length).map enc) (o := 0) (i := 0) hst (by simp; omega) (by intro v hv'; obtain ⟨y, _, rfl⟩ := List.mem_map.1 hv'; exact hv y)
      refine ⟨k1, hK _ ?_⟩
      have pr := putRow_app ((ks.take ws.length).map enc) [] (ws.map enc ++ z) (by simp; omega)
      rw [show 0 + 0 = ([] : List Value).length from rfl] at k2
      rw [List.nil_append, List.nil_append] at pr
      rw [pr] at k2
      have hown := (k2.own _ (List.mem_singleton.2 rfl)).2
      have hbel := app_s.setRow_other ((ks.take ws.length).map enc) r 0 0 w
      refine hS.put rfl ⟨hbel.1, hbel.2.1, hbel.2.2.1, by rw [hbel.2.2.2.1]; exact Nat.le_refl _, fun k hk' => hbel.2.2.2.2 k (by omega)⟩ (fun b hb hne => hbel.2.2.2.2 b (fun e => hne ⟨_, rfl, e.symm⟩)) ⟨by rw [List.length_map, copL_len]; exact hn, .inr ⟨r, z, rfl, ?_, by rw [List.length_map, copL_len]; simpa using hc⟩⟩ (fun b hb => ?_) fun b hb => .inl hb
      · rw [hown]
        have e : (ws.map enc ++ z).drop ((ks.take ws.length).map enc).length = (ws.drop ks.length).map enc ++ z := by
          rcases Nat.le_total ks.length ws.length with h | h
          · rw [show ((ks.take ws.length).map enc).length = ks.length by simp; omega, List.drop_append_of_le_length (by simpa using h), List.map_drop]
          · rw [show ((ks.take ws.length).map enc).length = (ws.map enc).length by simp; omega, List.drop_left, List.drop_of_length_le (l := ws) h]
            rfl
        rw [e]
        unfold copL
        rw [List.map_append, List.append_assoc]
      · obtain ⟨x, hx, rfl⟩ := hb
        cases hx
        rw [hbel.2.2.2.1]; exact hlt

/-! ### What they reckon -/

/-- No number that memory holds is longer. -/
def bgOk (z : Int) : Option Int := if z.natAbs.log2 < 34359738368 then some z else none
theorem bgOk_e {z y : Int} (h : bgOk z = some y) : z = y ∧ z.natAbs.log2 < 34359738368 := by
  unfold bgOk at h
  split at h
  · exact ⟨Option.some.inj h, by assumption⟩
  · cases h
theorem bgOk_t {z : Int} (h : z.natAbs.log2 < 34359738368) : bgOk z = some z := if_pos h

end Go.Eng
