/-
  From the statements of the plain side to the form that a statement's proof wants. No condition.
-/
import Derived.Test.YtlnelldekejadaaGreatPl
set_option linter.all false
namespace Go.Eng
open Go
theorem Ho.some_old {w0 w:World} {L:List It} (h:Ho w0 w L):∃ M,St w0 w M:=⟨[],h.below,(fun _ he=>by cases he),List.Pairwise.nil⟩
theorem Em9 {e:It} {L:List It} (he:e.own=false) (h:∀ x∈L,x.own=false):∀ x∈e::L,x.own=false:=by
 intro x hx
 rcases List.mem_cons.1 hx with rfl | hx
 · exact he
 · exact h x hx
theorem Gi7:∀ x∈([]:List It),x.own=false:=fun _ h=>by cases h
end Go.Eng
