/-
  DERIVED. GIVEN WITH THE SEED: THE CARDS: each row of YtmecjaojkegamaaGreatDoorRows.lean that lists a variable, with what it lists TIED to the program's text (the seventh form; the later family's looks); each row that meets fmt, with fmt's text TOLD by the authors' own Lean function (tested against real Go, not proved from fmt's source: count such statements apart). THE CARD IS WHAT COUNTS. Prove the row's statement (the work); the ties are given (YtmecjaojkegamaaGreatDoorTie.lean); close each card by the builder's one call (the guide's Derived/Test/ToyasCard.lean, 'card_holds'). Laid BY PROGRAM, IN A SANDBOX (cutbox-door.mjs). By AI agents, Wed Nov 11 2026. No macro, syntax, notation, axiom, sorry.
-/
import Derived.Test.YtmecjaojkegamaaGreatDoorRows
import GoSem.ClaimSeven
namespace Go.Proofs.YtmecjaojkegamaaGreatDoor
namespace Rows

/-- THE TIED CARD OF 'girderlaw02.DyadRounds'. -/
def dyadRoundsCard : Claim7 := { stood := { row := dyadRoundsRow, standIns := [], harness := (true, "7938cb665828224a8ccd41920b13f17e4746748844369b806c4bf89812da5bc8"), looks := false }, kinds := [], alts := [], laidByText := true, laidKinds := [.data], laidTests := true, laidLooks := .later }
def DyadRoundsCardSaid : Prop := Claim7.holds Tryz.pinned (.plain (OpenSpec.ofChange dyadRoundsSpec)) dyadRoundsCard

/-- THE TIED CARD OF 'girderlaw02.DyadNorms'. -/
def dyadNormsCard : Claim7 := { stood := { row := dyadNormsRow, standIns := [], harness := (true, "7938cb665828224a8ccd41920b13f17e4746748844369b806c4bf89812da5bc8"), looks := false }, kinds := [], alts := [], laidByText := true, laidKinds := [.data], laidTests := true, laidLooks := .later }
def DyadNormsCardSaid : Prop := Claim7.holds Tryz.pinned (.plain (OpenSpec.ofChange dyadNormsSpec)) dyadNormsCard

/-- THE TIED CARD OF 'girderlaw02.DyadReckons'. -/
def dyadReckonsCard : Claim7 := { stood := { row := dyadReckonsRow, standIns := [], harness := (true, "7938cb665828224a8ccd41920b13f17e4746748844369b806c4bf89812da5bc8"), looks := false }, kinds := [], alts := [], laidByText := true, laidKinds := [.data], laidTests := true, laidLooks := .later }
def DyadReckonsCardSaid : Prop := Claim7.holds Tryz.pinned (.plain (OpenSpec.ofChange dyadReckonsSpec)) dyadReckonsCard

/-- THE SECOND FORM's CARD OF 'girderlaw02.DyadRounds'. -/
def dyadRoundsUptoCard : Claim7 := { stood := { row := dyadRoundsUptoRow, standIns := [], harness := (true, "7938cb665828224a8ccd41920b13f17e4746748844369b806c4bf89812da5bc8"), looks := false }, kinds := [], alts := [], laidByText := true, laidKinds := [.data], laidTests := true, laidLooks := .later }
def DyadRoundsUptoCardSaid : Prop := Claim7.holds Tryz.pinned (.plain (OpenSpec.upto dyadRoundsSpec)) dyadRoundsUptoCard

/-- THE SECOND FORM's CARD OF 'girderlaw02.DyadNorms'. -/
def dyadNormsUptoCard : Claim7 := { stood := { row := dyadNormsUptoRow, standIns := [], harness := (true, "7938cb665828224a8ccd41920b13f17e4746748844369b806c4bf89812da5bc8"), looks := false }, kinds := [], alts := [], laidByText := true, laidKinds := [.data], laidTests := true, laidLooks := .later }
def DyadNormsUptoCardSaid : Prop := Claim7.holds Tryz.pinned (.plain (OpenSpec.upto dyadNormsSpec)) dyadNormsUptoCard

/-- THE SECOND FORM's CARD OF 'girderlaw02.DyadReckons'. -/
def dyadReckonsUptoCard : Claim7 := { stood := { row := dyadReckonsUptoRow, standIns := [], harness := (true, "7938cb665828224a8ccd41920b13f17e4746748844369b806c4bf89812da5bc8"), looks := false }, kinds := [], alts := [], laidByText := true, laidKinds := [.data], laidTests := true, laidLooks := .later }
def DyadReckonsUptoCardSaid : Prop := Claim7.holds Tryz.pinned (.plain (OpenSpec.upto dyadReckonsSpec)) dyadReckonsUptoCard
end Rows
end Go.Proofs.YtmecjaojkegamaaGreatDoor
