/-
  From the statements of the plain side to the form that a statement's proof wants. No condition.
-/
import Derived.Test.YtlnelldekejadaaPl
set_option linter.all false
namespace Go.Eng
open Go
theorem Ho.some_old {w0 w:World} {L:List It} (h:Ho w0 w L):∃ M,St w0 w M:=⟨[],h.below,(fun _ he=>by cases he),List.Pairwise.nil⟩
end Go.Eng
