/-
  DERIVED. GIVEN WITH THE SEED: THE CARDS: each row of YtgbilchfljlbeaaGreatDoorRows.lean that lists a variable, with what it lists TIED to the program's text (the seventh form; the later family's looks); each row that meets fmt, with fmt's text TOLD by the authors' own Lean function (tested against real Go, not proved from fmt's source: count such statements apart). THE CARD IS WHAT COUNTS. Prove the row's statement (the work); the ties are given (YtgbilchfljlbeaaGreatDoorTie.lean); close each card by the builder's one call (the guide's Derived/Test/ToyasCard.lean, 'card_holds'). Laid BY PROGRAM, IN A SANDBOX (cutbox-door.mjs). By AI agents, Wed Nov 11 2026. No macro, syntax, notation, axiom, sorry.
-/
import Derived.Test.YtgbilchfljlbeaaGreatDoorRows
import GoSem.ClaimSeven
namespace Go.Proofs.YtgbilchfljlbeaaGreatDoor
namespace Rows

/-- THE TIED CARD OF 'girderlaw14.RefineLefts'. -/
def refineLeftsCard : Claim7 := { stood := { row := refineLeftsRow, standIns := [], harness := (true, "d0d8f62621e6a61e5cf9ad6fdb5aa000d077c647fdd76165644c2b082b18f6a0"), looks := false }, kinds := [], alts := [], laidByText := true, laidKinds := [.data], laidTests := true, laidLooks := .later }
def RefineLeftsCardSaid : Prop := Claim7.holds Tryz.pinned (.plain (OpenSpec.ofChange refineLeftsSpec)) refineLeftsCard

/-- THE TIED CARD OF 'girderlaw14.RefineSteps'. -/
def refineStepsCard : Claim7 := { stood := { row := refineStepsRow, standIns := [], harness := (true, "d0d8f62621e6a61e5cf9ad6fdb5aa000d077c647fdd76165644c2b082b18f6a0"), looks := false }, kinds := [], alts := [], laidByText := true, laidKinds := [.data], laidTests := true, laidLooks := .later }
def RefineStepsCardSaid : Prop := Claim7.holds Tryz.pinned (.plain (OpenSpec.ofChange refineStepsSpec)) refineStepsCard

/-- THE TIED CARD OF 'girderlaw14.RefineUntil'. -/
def refineUntilCard : Claim7 := { stood := { row := refineUntilRow, standIns := [], harness := (true, "d0d8f62621e6a61e5cf9ad6fdb5aa000d077c647fdd76165644c2b082b18f6a0"), looks := false }, kinds := [], alts := [], laidByText := true, laidKinds := [.data], laidTests := true, laidLooks := .later }
def RefineUntilCardSaid : Prop := Claim7.holds Tryz.pinned (.plain (OpenSpec.ofChange refineUntilSpec)) refineUntilCard

/-- THE TIED CARD OF 'girderlaw14.RefineNever'. -/
def refineNeverCard : Claim7 := { stood := { row := refineNeverRow, standIns := [], harness := (true, "d0d8f62621e6a61e5cf9ad6fdb5aa000d077c647fdd76165644c2b082b18f6a0"), looks := false }, kinds := [], alts := [], laidByText := true, laidKinds := [.data], laidTests := true, laidLooks := .later }
def RefineNeverCardSaid : Prop := Claim7.holds Tryz.pinned (.plain (OpenSpec.ofChange refineNeverSpec)) refineNeverCard

/-- THE TIED CARD OF 'girderlaw14.RefineNothing'. -/
def refineNothingCard : Claim7 := { stood := { row := refineNothingRow, standIns := [], harness := (true, "d0d8f62621e6a61e5cf9ad6fdb5aa000d077c647fdd76165644c2b082b18f6a0"), looks := false }, kinds := [], alts := [], laidByText := true, laidKinds := [.data], laidTests := true, laidLooks := .later }
def RefineNothingCardSaid : Prop := Claim7.holds Tryz.pinned (.plain (OpenSpec.ofChange refineNothingSpec)) refineNothingCard

/-- THE TIED CARD OF 'girderlaw14.RefineScales'. -/
def refineScalesCard : Claim7 := { stood := { row := refineScalesRow, standIns := [], harness := (true, "d0d8f62621e6a61e5cf9ad6fdb5aa000d077c647fdd76165644c2b082b18f6a0"), looks := false }, kinds := [], alts := [], laidByText := true, laidKinds := [.data], laidTests := true, laidLooks := .later }
def RefineScalesCardSaid : Prop := Claim7.holds Tryz.pinned (.plain (OpenSpec.ofChange refineScalesSpec)) refineScalesCard

/-- THE SECOND FORM's CARD OF 'girderlaw14.RefineLefts'. -/
def refineLeftsUptoCard : Claim7 := { stood := { row := refineLeftsUptoRow, standIns := [], harness := (true, "d0d8f62621e6a61e5cf9ad6fdb5aa000d077c647fdd76165644c2b082b18f6a0"), looks := false }, kinds := [], alts := [], laidByText := true, laidKinds := [.data], laidTests := true, laidLooks := .later }
def RefineLeftsUptoCardSaid : Prop := Claim7.holds Tryz.pinned (.plain (OpenSpec.upto refineLeftsSpec)) refineLeftsUptoCard

/-- THE SECOND FORM's CARD OF 'girderlaw14.RefineSteps'. -/
def refineStepsUptoCard : Claim7 := { stood := { row := refineStepsUptoRow, standIns := [], harness := (true, "d0d8f62621e6a61e5cf9ad6fdb5aa000d077c647fdd76165644c2b082b18f6a0"), looks := false }, kinds := [], alts := [], laidByText := true, laidKinds := [.data], laidTests := true, laidLooks := .later }
def RefineStepsUptoCardSaid : Prop := Claim7.holds Tryz.pinned (.plain (OpenSpec.upto refineStepsSpec)) refineStepsUptoCard

/-- THE SECOND FORM's CARD OF 'girderlaw14.RefineUntil'. -/
def refineUntilUptoCard : Claim7 := { stood := { row := refineUntilUptoRow, standIns := [], harness := (true, "d0d8f62621e6a61e5cf9ad6fdb5aa000d077c647fdd76165644c2b082b18f6a0"), looks := false }, kinds := [], alts := [], laidByText := true, laidKinds := [.data], laidTests := true, laidLooks := .later }
def RefineUntilUptoCardSaid : Prop := Claim7.holds Tryz.pinned (.plain (OpenSpec.upto refineUntilSpec)) refineUntilUptoCard

/-- THE SECOND FORM's CARD OF 'girderlaw14.RefineNever'. -/
def refineNeverUptoCard : Claim7 := { stood := { row := refineNeverUptoRow, standIns := [], harness := (true, "d0d8f62621e6a61e5cf9ad6fdb5aa000d077c647fdd76165644c2b082b18f6a0"), looks := false }, kinds := [], alts := [], laidByText := true, laidKinds := [.data], laidTests := true, laidLooks := .later }
def RefineNeverUptoCardSaid : Prop := Claim7.holds Tryz.pinned (.plain (OpenSpec.upto refineNeverSpec)) refineNeverUptoCard

/-- THE SECOND FORM's CARD OF 'girderlaw14.RefineNothing'. -/
def refineNothingUptoCard : Claim7 := { stood := { row := refineNothingUptoRow, standIns := [], harness := (true, "d0d8f62621e6a61e5cf9ad6fdb5aa000d077c647fdd76165644c2b082b18f6a0"), looks := false }, kinds := [], alts := [], laidByText := true, laidKinds := [.data], laidTests := true, laidLooks := .later }
def RefineNothingUptoCardSaid : Prop := Claim7.holds Tryz.pinned (.plain (OpenSpec.upto refineNothingSpec)) refineNothingUptoCard

/-- THE SECOND FORM's CARD OF 'girderlaw14.RefineScales'. -/
def refineScalesUptoCard : Claim7 := { stood := { row := refineScalesUptoRow, standIns := [], harness := (true, "d0d8f62621e6a61e5cf9ad6fdb5aa000d077c647fdd76165644c2b082b18f6a0"), looks := false }, kinds := [], alts := [], laidByText := true, laidKinds := [.data], laidTests := true, laidLooks := .later }
def RefineScalesUptoCardSaid : Prop := Claim7.holds Tryz.pinned (.plain (OpenSpec.upto refineScalesSpec)) refineScalesUptoCard
end Rows
end Go.Proofs.YtgbilchfljlbeaaGreatDoor
