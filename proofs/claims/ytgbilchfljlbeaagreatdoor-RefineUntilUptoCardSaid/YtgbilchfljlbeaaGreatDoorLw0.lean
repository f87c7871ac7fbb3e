/-
  From the statements of the plain side to the form that a statement's proof wants. No condition.
-/
import Derived.Test.YtgbilchfljlbeaaGreatDoorOpp
set_option linter.all false
namespace Go.Eng
open Go
theorem Ho.some_old {w0 w:World} {L:List It} (h:Ho w0 w L):∃ M,St w0 w M:=⟨[],h.below,(fun _ he=>by cases he),List.Pairwise.nil⟩
theorem Ao1 {e:It} {L:List It} (he:e.own=false) (h:∀ x∈L,x.own=false):∀ x∈e::L,x.own=false:=by
  intro x hx
  rcases List.mem_cons.1 hx with rfl | hx
  · exact he
  · exact h x hx
theorem Cm9:∀ x∈([]:List It),x.own=false:=fun _ h=>by cases h
theorem Fe4 {l:List Nat} (h:∀ p∈l,p<18446744073709551616):∀ p∈l.map nf,p<18446744073709551616:=by
  intro p hp
  obtain ⟨x,hx,rfl⟩:=List.mem_map.1 hp
  unfold nf
  cases isNaN x
  · exact h x hx
  · show Cx5<_
    decide
end Go.Eng
