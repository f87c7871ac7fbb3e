/-
  DERIVED. GIVEN WITH THE SEED: THE CARDS: each row of YtgbilchfljlbeaaDoorRows.lean that lists a variable, with what it lists TIED to the program's text (the seventh form; the later family's looks); each row that meets fmt, with fmt's text TOLD by the authors' own Lean function (tested against real Go, not proved from fmt's source: count such statements apart). THE CARD IS WHAT COUNTS. Prove the row's statement (the work); the ties are given (YtgbilchfljlbeaaDoorTie.lean); close each card by the builder's one call (the guide's Derived/Test/ToyasCard.lean, 'card_holds'). Laid BY PROGRAM, IN A SANDBOX (cutbox-door.mjs). By AI agents, Wed Nov 11 2026. No macro, syntax, notation, axiom, sorry.
-/
import Derived.Test.YtgbilchfljlbeaaDoorRows
import GoSem.ClaimSeven
namespace Go.Proofs.YtgbilchfljlbeaaDoor
namespace Rows

/-- THE TIED CARD OF 'girderlaw09.VectorNorm'. -/
def vectorNormCard : Claim7 := { stood := { row := vectorNormRow, standIns := [], harness := (true, "0f01c6d3db9929af8e8cc984677bd4c41dea36006f47932cdc8d552ecde4da6e"), looks := false }, kinds := [], alts := [], laidByText := true, laidKinds := [.data], laidTests := true, laidLooks := .later }
def VectorNormCardSaid : Prop := Claim7.holds Tryd.pinned (.plain (OpenSpec.ofChange vectorNormSpec)) vectorNormCard

/-- THE TIED CARD OF 'girderlaw12.LowerNear'. -/
def lowerNearCard : Claim7 := { stood := { row := lowerNearRow, standIns := [], harness := (true, "0f01c6d3db9929af8e8cc984677bd4c41dea36006f47932cdc8d552ecde4da6e"), looks := false }, kinds := [], alts := [], laidByText := true, laidKinds := [.data], laidTests := true, laidLooks := .later }
def LowerNearCardSaid : Prop := Claim7.holds Tryd.pinned (.plain (OpenSpec.ofChange lowerNearSpec)) lowerNearCard

/-- THE SECOND FORM's CARD OF 'girderlaw09.VectorNorm'. -/
def vectorNormUptoCard : Claim7 := { stood := { row := vectorNormUptoRow, standIns := [], harness := (true, "0f01c6d3db9929af8e8cc984677bd4c41dea36006f47932cdc8d552ecde4da6e"), looks := false }, kinds := [], alts := [], laidByText := true, laidKinds := [.data], laidTests := true, laidLooks := .later }
def VectorNormUptoCardSaid : Prop := Claim7.holds Tryd.pinned (.plain (OpenSpec.upto vectorNormSpec)) vectorNormUptoCard

/-- THE SECOND FORM's CARD OF 'girderlaw12.LowerNear'. -/
def lowerNearUptoCard : Claim7 := { stood := { row := lowerNearUptoRow, standIns := [], harness := (true, "0f01c6d3db9929af8e8cc984677bd4c41dea36006f47932cdc8d552ecde4da6e"), looks := false }, kinds := [], alts := [], laidByText := true, laidKinds := [.data], laidTests := true, laidLooks := .later }
def LowerNearUptoCardSaid : Prop := Claim7.holds Tryd.pinned (.plain (OpenSpec.upto lowerNearSpec)) lowerNearUptoCard
end Rows
end Go.Proofs.YtgbilchfljlbeaaDoor
