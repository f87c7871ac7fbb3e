/-
  DERIVED. GIVEN WITH THE SEED: THE CARDS: each row of YtmecjaojkegamaaDoorRows.lean that lists a variable, with what it lists TIED to the program's text (the seventh form; the later family's looks); each row that meets fmt, with fmt's text TOLD by the authors' own Lean function (tested against real Go, not proved from fmt's source: count such statements apart). THE CARD IS WHAT COUNTS. Prove the row's statement (the work); the ties are given (YtmecjaojkegamaaDoorTie.lean); close each card by the builder's one call (the guide's Derived/Test/ToyasCard.lean, 'card_holds'). Laid BY PROGRAM, IN A SANDBOX (cutbox-door.mjs). By AI agents, Wed Nov 11 2026. No macro, syntax, notation, axiom, sorry.
-/
import Derived.Test.YtmecjaojkegamaaDoorRows
import GoSem.ClaimSeven
namespace Go.Proofs.YtmecjaojkegamaaDoor
namespace Rows

/-- THE TIED CARD OF 'girderlaw02.DyadBegins'. -/
def dyadBeginsCard : Claim7 := { stood := { row := dyadBeginsRow, standIns := [], harness := (true, "7546290b7c02230904834b91854431a830b977b4a62ede83a70b2102030c9060"), looks := false }, kinds := [], alts := [], laidByText := true, laidKinds := [.data], laidTests := true, laidLooks := .later }
def DyadBeginsCardSaid : Prop := Claim7.holds Tryd.pinned (.plain (OpenSpec.ofChange dyadBeginsSpec)) dyadBeginsCard

/-- THE TIED CARD OF 'girderlaw02.DyadScales'. -/
def dyadScalesCard : Claim7 := { stood := { row := dyadScalesRow, standIns := [], harness := (true, "7546290b7c02230904834b91854431a830b977b4a62ede83a70b2102030c9060"), looks := false }, kinds := [], alts := [], laidByText := true, laidKinds := [.data], laidTests := true, laidLooks := .later }
def DyadScalesCardSaid : Prop := Claim7.holds Tryd.pinned (.plain (OpenSpec.ofChange dyadScalesSpec)) dyadScalesCard

/-- THE TIED CARD OF 'girderlaw02.DyadRing'. -/
def dyadRingCard : Claim7 := { stood := { row := dyadRingRow, standIns := [], harness := (true, "7546290b7c02230904834b91854431a830b977b4a62ede83a70b2102030c9060"), looks := false }, kinds := [], alts := [], laidByText := true, laidKinds := [.data], laidTests := true, laidLooks := .later }
def DyadRingCardSaid : Prop := Claim7.holds Tryd.pinned (.plain (OpenSpec.ofChange dyadRingSpec)) dyadRingCard

/-- THE TIED CARD OF 'girderlaw02.DyadFloats'. -/
def dyadFloatsCard : Claim7 := { stood := { row := dyadFloatsRow, standIns := [], harness := (true, "7546290b7c02230904834b91854431a830b977b4a62ede83a70b2102030c9060"), looks := false }, kinds := [], alts := [], laidByText := true, laidKinds := [.data], laidTests := true, laidLooks := .later }
def DyadFloatsCardSaid : Prop := Claim7.holds Tryd.pinned (.plain (OpenSpec.ofChange dyadFloatsSpec)) dyadFloatsCard

/-- THE TIED CARD OF 'girderlaw02.DyadOrders'. -/
def dyadOrdersCard : Claim7 := { stood := { row := dyadOrdersRow, standIns := [], harness := (true, "7546290b7c02230904834b91854431a830b977b4a62ede83a70b2102030c9060"), looks := false }, kinds := [], alts := [], laidByText := true, laidKinds := [.data], laidTests := true, laidLooks := .later }
def DyadOrdersCardSaid : Prop := Claim7.holds Tryd.pinned (.plain (OpenSpec.ofChange dyadOrdersSpec)) dyadOrdersCard

/-- THE TIED CARD OF 'girderlaw02.DyadBetween'. -/
def dyadBetweenCard : Claim7 := { stood := { row := dyadBetweenRow, standIns := [], harness := (true, "7546290b7c02230904834b91854431a830b977b4a62ede83a70b2102030c9060"), looks := false }, kinds := [], alts := [], laidByText := true, laidKinds := [.data], laidTests := true, laidLooks := .later }
def DyadBetweenCardSaid : Prop := Claim7.holds Tryd.pinned (.plain (OpenSpec.ofChange dyadBetweenSpec)) dyadBetweenCard

/-- THE SECOND FORM's CARD OF 'girderlaw02.DyadBegins'. -/
def dyadBeginsUptoCard : Claim7 := { stood := { row := dyadBeginsUptoRow, standIns := [], harness := (true, "7546290b7c02230904834b91854431a830b977b4a62ede83a70b2102030c9060"), looks := false }, kinds := [], alts := [], laidByText := true, laidKinds := [.data], laidTests := true, laidLooks := .later }
def DyadBeginsUptoCardSaid : Prop := Claim7.holds Tryd.pinned (.plain (OpenSpec.upto dyadBeginsSpec)) dyadBeginsUptoCard

/-- THE SECOND FORM's CARD OF 'girderlaw02.DyadScales'. -/
def dyadScalesUptoCard : Claim7 := { stood := { row := dyadScalesUptoRow, standIns := [], harness := (true, "7546290b7c02230904834b91854431a830b977b4a62ede83a70b2102030c9060"), looks := false }, kinds := [], alts := [], laidByText := true, laidKinds := [.data], laidTests := true, laidLooks := .later }
def DyadScalesUptoCardSaid : Prop := Claim7.holds Tryd.pinned (.plain (OpenSpec.upto dyadScalesSpec)) dyadScalesUptoCard

/-- THE SECOND FORM's CARD OF 'girderlaw02.DyadRing'. -/
def dyadRingUptoCard : Claim7 := { stood := { row := dyadRingUptoRow, standIns := [], harness := (true, "7546290b7c02230904834b91854431a830b977b4a62ede83a70b2102030c9060"), looks := false }, kinds := [], alts := [], laidByText := true, laidKinds := [.data], laidTests := true, laidLooks := .later }
def DyadRingUptoCardSaid : Prop := Claim7.holds Tryd.pinned (.plain (OpenSpec.upto dyadRingSpec)) dyadRingUptoCard

/-- THE SECOND FORM's CARD OF 'girderlaw02.DyadFloats'. -/
def dyadFloatsUptoCard : Claim7 := { stood := { row := dyadFloatsUptoRow, standIns := [], harness := (true, "7546290b7c02230904834b91854431a830b977b4a62ede83a70b2102030c9060"), looks := false }, kinds := [], alts := [], laidByText := true, laidKinds := [.data], laidTests := true, laidLooks := .later }
def DyadFloatsUptoCardSaid : Prop := Claim7.holds Tryd.pinned (.plain (OpenSpec.upto dyadFloatsSpec)) dyadFloatsUptoCard

/-- THE SECOND FORM's CARD OF 'girderlaw02.DyadOrders'. -/
def dyadOrdersUptoCard : Claim7 := { stood := { row := dyadOrdersUptoRow, standIns := [], harness := (true, "7546290b7c02230904834b91854431a830b977b4a62ede83a70b2102030c9060"), looks := false }, kinds := [], alts := [], laidByText := true, laidKinds := [.data], laidTests := true, laidLooks := .later }
def DyadOrdersUptoCardSaid : Prop := Claim7.holds Tryd.pinned (.plain (OpenSpec.upto dyadOrdersSpec)) dyadOrdersUptoCard

/-- THE SECOND FORM's CARD OF 'girderlaw02.DyadBetween'. -/
def dyadBetweenUptoCard : Claim7 := { stood := { row := dyadBetweenUptoRow, standIns := [], harness := (true, "7546290b7c02230904834b91854431a830b977b4a62ede83a70b2102030c9060"), looks := false }, kinds := [], alts := [], laidByText := true, laidKinds := [.data], laidTests := true, laidLooks := .later }
def DyadBetweenUptoCardSaid : Prop := Claim7.holds Tryd.pinned (.plain (OpenSpec.upto dyadBetweenSpec)) dyadBetweenUptoCard
end Rows
end Go.Proofs.YtmecjaojkegamaaDoor
