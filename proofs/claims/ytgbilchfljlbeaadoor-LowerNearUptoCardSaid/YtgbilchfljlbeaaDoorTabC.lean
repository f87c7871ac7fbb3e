
/-
  The table of math/bits, out of the row's condition. No condition.
-/
import Derived.Test.YtgbilchfljlbeaaDoorBgo
import Derived.Lib.LaidTab
import Derived.MakeChecks
set_option linter.all false
namespace Go.Eng
open Go Go.Lib
theorem tab64_of {P:Program} {W:World} {name:String} {rest:List (String×DataW Unit)} {g:Nat} {t e:TypeId}
    (hg:P.globalNamed name=some g) (hty:(P.globals[g]?).map (·.type)=some t) (ht:P.underlying t=some (.array 64 e)) (he:P.underlying e=some (.int .u8)) (hce:P.cellsOf e=1) (hct:P.cellsOf t=64)
    (h:laidMet P ((name,tabData .u8 tab64L)::rest) W):tab64 g W:=by
  have hT:=tabIs_of_head hg hty ht he hce hct h
  refine ⟨by decide,by decide,fun i hi=>⟨⟨g,0,none⟩,rfl,?_⟩⟩
  have e:tab64L.length=64:=by decide
  have hi':i<tab64L.length:=by rw [e];simpa using hi
  have:=hT.cell hg i hi'
  have ea:(⟨g,0,none⟩:Addr).add i=⟨g,i,none⟩:=by
    simp [Addr.add]
    intro h;omega
  rw [ea]
  simpa [List.getD,hi'] using this
end Go.Eng
