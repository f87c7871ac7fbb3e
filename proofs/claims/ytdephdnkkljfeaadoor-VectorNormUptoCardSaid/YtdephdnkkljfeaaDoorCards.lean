/-
  DERIVED. GIVEN WITH THE SEED: THE CARDS: each row of YtdephdnkkljfeaaDoorRows.lean that lists a variable, with what it lists TIED to the program's text (the seventh form; the later family's looks); each row that meets fmt, with fmt's text TOLD by the authors' own Lean function (tested against real Go, not proved from fmt's source: count such statements apart). THE CARD IS WHAT COUNTS. Prove the row's statement (the work); the ties are given (YtdephdnkkljfeaaDoorTie.lean); close each card by the builder's one call (the guide's Derived/Test/ToyasCard.lean, 'card_holds'). Laid BY PROGRAM, IN A SANDBOX (cutbox-door.mjs). By AI agents, Wed Nov 11 2026. No macro, syntax, notation, axiom, sorry.
-/
import Derived.Test.YtdephdnkkljfeaaDoorRows
import GoSem.ClaimSeven
namespace Go.Proofs.YtdephdnkkljfeaaDoor
namespace Rows

/-- THE TIED CARD OF 'girderlaw12.LowerNear'. -/
def lowerNearCard : Claim7 := { stood := { row := lowerNearRow, standIns := [], harness := (true, "fdf870156d99ea66c90c8ce892304dc82baad52f180ff798f0f7869154db6adc"), looks := false }, kinds := [], alts := [], laidByText := true, laidKinds := [.data], laidTests := true, laidLooks := .later }
def LowerNearCardSaid : Prop := Claim7.holds Tryd.pinned (.plain (OpenSpec.ofChange lowerNearSpec)) lowerNearCard

/-- THE TIED CARD OF 'girderlaw09.VectorNorm'. -/
def vectorNormCard : Claim7 := { stood := { row := vectorNormRow, standIns := [], harness := (true, "fdf870156d99ea66c90c8ce892304dc82baad52f180ff798f0f7869154db6adc"), looks := false }, kinds := [], alts := [], laidByText := true, laidKinds := [.data], laidTests := true, laidLooks := .later }
def VectorNormCardSaid : Prop := Claim7.holds Tryd.pinned (.plain (OpenSpec.ofChange vectorNormSpec)) vectorNormCard

/-- THE SECOND FORM's CARD OF 'girderlaw12.LowerNear'. -/
def lowerNearUptoCard : Claim7 := { stood := { row := lowerNearUptoRow, standIns := [], harness := (true, "fdf870156d99ea66c90c8ce892304dc82baad52f180ff798f0f7869154db6adc"), looks := false }, kinds := [], alts := [], laidByText := true, laidKinds := [.data], laidTests := true, laidLooks := .later }
def LowerNearUptoCardSaid : Prop := Claim7.holds Tryd.pinned (.plain (OpenSpec.upto lowerNearSpec)) lowerNearUptoCard

/-- THE SECOND FORM's CARD OF 'girderlaw09.VectorNorm'. -/
def vectorNormUptoCard : Claim7 := { stood := { row := vectorNormUptoRow, standIns := [], harness := (true, "fdf870156d99ea66c90c8ce892304dc82baad52f180ff798f0f7869154db6adc"), looks := false }, kinds := [], alts := [], laidByText := true, laidKinds := [.data], laidTests := true, laidLooks := .later }
def VectorNormUptoCardSaid : Prop := Claim7.holds Tryd.pinned (.plain (OpenSpec.upto vectorNormSpec)) vectorNormUptoCard
end Rows
end Go.Proofs.YtdephdnkkljfeaaDoor
