/-
  What the arguments that a statement lets in come to, opened: lists of booleans. No condition.
-/
import Derived.Test.YtbegoalncgpbnaaRow2
set_option linter.unusedVariables false
set_option linter.unusedSimpArgs false
set_option linter.unnecessarySimpa false
set_option linter.unusedSectionVars false
namespace Go.Eng
open Go Go.ChangeShapes Go.WideShapes

section
variable {H : Type} {enc : TypeId × Value → H} {P : Program} {w : World} {base : Nat} {spare : Nat → Bool} {held : Bool}

theorem trod_boolk {t : TypeId} {n : Nat} {cs : List Value} {x : DataW H × List MemPlace} (ht : P.underlying t = some .bool) (h : DataW.trod enc P w base spare held n t cs = some x) : ∃ b, cs = [.bool b] ∧ x = (.lit (.bool b), []) := by
  cases n with
  | zero => simp [DataW.trod] at h
  | succ n =>
    unfold DataW.trod at h
    rw [ht] at h
    split at h <;> simp_all

theorem open_bools {t e : TypeId} {fuel : Nat} {cs : List Value} {x : DataW H × List MemPlace} (ht : P.underlying t = some (.slice e)) (he : P.underlying e = some .bool) (hc : P.cellsOf e = 1)
    (h : DataW.trod enc P w base spare held fuel t cs = some x) : ∃ (a : Option Addr) (n c : Nat) (l : List Bool), cs = [.slice a n c] ∧ rdA (l.map Value.bool) a n c w ∧ n = elemsIn x.1 := by
  rcases DataW.trod_slice ht h with ⟨rfl, rfl⟩ | ⟨a, len, cap, elems, rest, n, _, rfl, rfl, hb, hl, hm, hlen, hel, hsp, hns⟩
  · exact ⟨none, 0, 0, [], rfl, ⟨rfl, Nat.le_refl _, fun i hi => by omega⟩, rfl⟩
  · refine ⟨some a, len, cap, elems.map (fun y => match y.1 with | .lit (.bool b) => b | _ => false), rfl, ⟨by simp [hlen], hl, fun i hi => ⟨a, rfl, ?_⟩⟩, by simp [elemsIn, hlen]⟩
    have hi' : i < elems.length := by omega
    have := hel i (by omega)
    rw [hc, Nat.mul_one, List.getElem?_eq_getElem hi', Option.bind_eq_some_iff] at this
    obtain ⟨cs', hcs, hy⟩ := this
    obtain ⟨b, rfl, hx⟩ := trod_boolk he hy
    have hcell := cell_of_cells?_one hcs
    rw [hcell]
    simp [hi', hx]
end
end Go.Eng
