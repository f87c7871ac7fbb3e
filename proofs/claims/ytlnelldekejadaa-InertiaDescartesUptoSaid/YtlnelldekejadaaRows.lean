/-
  No cell of these rows narrows 'for every input' (looked for: loops, veiled, ifaces, maps, wideKeys, modest, calm, conditions, laid).
  DERIVED. THE GIVEN ROWS OF THIS SEAT. 4 by the template 'for every input the law returns true; each argument reads behind the call as it read before'; 0 by the template 'total and deterministic' (their statements: YtlnelldekejadaaTotals.lean).
  GIVEN WITH THE SEED: the statements are not yours to turn. If you find one false, say at which input.
  Laid BY PROGRAM, IN A SANDBOX (cutbox-rows.mjs): the forced cells as the released guide's own fill.sh prints them over the translation 5a1440c6fb30821a… (all of the seat's roots in one cut). By AI agents, Wed Nov 11 2026. No macro, syntax, notation, axiom, sorry.
-/
import Derived.Test.YtlnelldekejadaaChecked
import GoSem.Claim
import GoSem.ClaimJoined
import GoSem.ClaimMapViews
import Derived.JoinedTies
import Derived.KernelRfl
namespace Go.Proofs.Ytlnelldekejadaa
/- THE CELL 'sum', in the pinned program and in every row, IS THE sha256 OF THE DUMP (.gsa) THAT YtlnelldekejadaaProg.lean LOADS. Nothing in Lean hashes anything: it is a label: what it is worth is what the hold of that sum in a sandbox is worth. -/
noncomputable def Try.pinned : Pinned := { name := "ytlnelldekejadaa", sum := "5a1440c6fb30821a8ec45a83b1f221b10c965fd95237c422ef7f5420a2512d4a", checked := Try.checked }
namespace Rows
def none {H : Type} : Left H := { results := [], args := [] }

/-- 'girderlaw16.InertiaNumbers': WHATEVER THE INPUT: true; the input reads as it did. -/
def inertiaNumbersSpec : ChangeSpec := { name := "inertiaNumbers", fn := fun _ => fun
  | [] => { results := [.lit (.bool true)], args := [] }
  | _ => none }
def inertiaNumbersRow : OpenClaim := { program := "ytlnelldekejadaa", sum := "5a1440c6fb30821a8ec45a83b1f221b10c965fd95237c422ef7f5420a2512d4a", func := "girder/girderlaw16.InertiaNumbers", spec := "inertiaNumbers", unfollowed := true, recurses := true, apart := false }
def InertiaNumbersSaid : Prop := inertiaNumbersRow.holds Try.pinned (OpenSpec.ofChange inertiaNumbersSpec)

/-- ITS FALSE NEIGHBOUR: 'it returns false'. Refute it at one input. -/
def inertiaNumbersWrong : ChangeSpec := { name := "inertiaNumbers", fn := fun _ => fun
  | [] => { results := [.lit (.bool false)], args := [] }
  | _ => none }
def InertiaNumbersWrongFalsely : Prop := inertiaNumbersRow.holds Try.pinned (OpenSpec.ofChange inertiaNumbersWrong)

/-- 'girderlaw16.InertiaSylvester': WHATEVER THE INPUT: true; the input reads as it did. -/
def inertiaSylvesterSpec : ChangeSpec := { name := "inertiaSylvester", fn := fun _ => fun
  | [d1, d2, d3, d4] => { results := [.lit (.bool true)], args := [d1, d2, d3, d4] }
  | _ => none }
def inertiaSylvesterRow : OpenClaim := { program := "ytlnelldekejadaa", sum := "5a1440c6fb30821a8ec45a83b1f221b10c965fd95237c422ef7f5420a2512d4a", func := "girder/girderlaw16.InertiaSylvester", spec := "inertiaSylvester", unfollowed := true, recurses := true, apart := false }
def InertiaSylvesterSaid : Prop := inertiaSylvesterRow.holds Try.pinned (OpenSpec.ofChange inertiaSylvesterSpec)

/-- ITS FALSE NEIGHBOUR: 'it returns false'. Refute it at one input. -/
def inertiaSylvesterWrong : ChangeSpec := { name := "inertiaSylvester", fn := fun _ => fun
  | [d1, d2, d3, d4] => { results := [.lit (.bool false)], args := [d1, d2, d3, d4] }
  | _ => none }
def InertiaSylvesterWrongFalsely : Prop := inertiaSylvesterRow.holds Try.pinned (OpenSpec.ofChange inertiaSylvesterWrong)

/-- 'girderlaw16.InertiaDescartes': WHATEVER THE INPUT: true; the input reads as it did. -/
def inertiaDescartesSpec : ChangeSpec := { name := "inertiaDescartes", fn := fun _ => fun
  | [d] => { results := [.lit (.bool true)], args := [d] }
  | _ => none }
def inertiaDescartesRow : OpenClaim := { program := "ytlnelldekejadaa", sum := "5a1440c6fb30821a8ec45a83b1f221b10c965fd95237c422ef7f5420a2512d4a", func := "girder/girderlaw16.InertiaDescartes", spec := "inertiaDescartes", unfollowed := true, recurses := true, apart := false }
def InertiaDescartesSaid : Prop := inertiaDescartesRow.holds Try.pinned (OpenSpec.ofChange inertiaDescartesSpec)

/-- ITS FALSE NEIGHBOUR: 'it returns false'. Refute it at one input. -/
def inertiaDescartesWrong : ChangeSpec := { name := "inertiaDescartes", fn := fun _ => fun
  | [d] => { results := [.lit (.bool false)], args := [d] }
  | _ => none }
def InertiaDescartesWrongFalsely : Prop := inertiaDescartesRow.holds Try.pinned (OpenSpec.ofChange inertiaDescartesWrong)

/-- 'girderlaw16.InertiaRises': WHATEVER THE INPUT: true; the input reads as it did. -/
def inertiaRisesSpec : ChangeSpec := { name := "inertiaRises", fn := fun _ => fun
  | [d1, d2, d3] => { results := [.lit (.bool true)], args := [d1, d2, d3] }
  | _ => none }
def inertiaRisesRow : OpenClaim := { program := "ytlnelldekejadaa", sum := "5a1440c6fb30821a8ec45a83b1f221b10c965fd95237c422ef7f5420a2512d4a", func := "girder/girderlaw16.InertiaRises", spec := "inertiaRises", unfollowed := true, recurses := true, apart := false }
def InertiaRisesSaid : Prop := inertiaRisesRow.holds Try.pinned (OpenSpec.ofChange inertiaRisesSpec)

/-- ITS FALSE NEIGHBOUR: 'it returns false'. Refute it at one input. -/
def inertiaRisesWrong : ChangeSpec := { name := "inertiaRises", fn := fun _ => fun
  | [d1, d2, d3] => { results := [.lit (.bool false)], args := [d1, d2, d3] }
  | _ => none }
def InertiaRisesWrongFalsely : Prop := inertiaRisesRow.holds Try.pinned (OpenSpec.ofChange inertiaRisesWrong)

/- THE SECOND FORM. 'bulk': how many values and letters a reading holds, each counted each time it is reached (what is shared counts as often as it is met; a slice's spare places count too). A statement '..UptoSaid' is the law's where the arguments, and the package variables that the reading takes, are together of bulk at most 1048576: NARROWER than '..Said'. Prove '..Said' where nothing that the law and all that it calls make is longer than what came in: it says more and counts as full. Else prove '..UptoSaid'. A law counts once. -/
mutual
def uptoBulk {H : Type} : DataW H → Nat
  | .lit (.string bytes) => bytes.length + 1
  | .lit _ => 1
  | .nil => 1
  | .ptr d => uptoBulk d + 1
  | .slice elems spare => uptoBulkAll elems + uptoBulkAll spare + 1
  | .agg parts => uptoBulkAll parts + 1
  | .iface _ d => uptoBulk d + 1
  | .map entries => uptoBulkEntries entries + 1
  | .held _ => 1
def uptoBulkAll {H : Type} : List (DataW H) → Nat
  | [] => 0
  | d :: r => uptoBulk d + uptoBulkAll r
def uptoBulkEntries {H : Type} : List (Lit × DataW H) → Nat
  | [] => 0
  | x :: r => uptoBulkEntry x + uptoBulkEntries r
def uptoBulkEntry {H : Type} : Lit × DataW H → Nat
  | (.string bytes, d) => bytes.length + uptoBulk d + 1
  | (_, d) => uptoBulk d + 1
 end
def uptoSmall : (H : Type) → List (DataW H) → Bool := fun _ ds => decide (uptoBulkAll ds ≤ 1048576)
def OpenSpec.upto (s : _root_.Go.ChangeSpec) : _root_.Go.OpenSpec := { _root_.Go.OpenSpec.ofChange s with cond := some uptoSmall }

/-- 'girderlaw16.InertiaNumbers', WHERE WHAT IT READS IS OF BULK AT MOST 1048576: true; the input reads as it did. -/
def inertiaNumbersUptoRow : OpenClaim := { program := "ytlnelldekejadaa", sum := "5a1440c6fb30821a8ec45a83b1f221b10c965fd95237c422ef7f5420a2512d4a", func := "girder/girderlaw16.InertiaNumbers", spec := "inertiaNumbers", unfollowed := true, recurses := true, apart := false, narrowed := true }
def InertiaNumbersUptoSaid : Prop := inertiaNumbersUptoRow.holds Try.pinned (OpenSpec.upto inertiaNumbersSpec)

/-- 'girderlaw16.InertiaSylvester', WHERE WHAT IT READS IS OF BULK AT MOST 1048576: true; the input reads as it did. -/
def inertiaSylvesterUptoRow : OpenClaim := { program := "ytlnelldekejadaa", sum := "5a1440c6fb30821a8ec45a83b1f221b10c965fd95237c422ef7f5420a2512d4a", func := "girder/girderlaw16.InertiaSylvester", spec := "inertiaSylvester", unfollowed := true, recurses := true, apart := false, narrowed := true }
def InertiaSylvesterUptoSaid : Prop := inertiaSylvesterUptoRow.holds Try.pinned (OpenSpec.upto inertiaSylvesterSpec)

/-- 'girderlaw16.InertiaDescartes', WHERE WHAT IT READS IS OF BULK AT MOST 1048576: true; the input reads as it did. -/
def inertiaDescartesUptoRow : OpenClaim := { program := "ytlnelldekejadaa", sum := "5a1440c6fb30821a8ec45a83b1f221b10c965fd95237c422ef7f5420a2512d4a", func := "girder/girderlaw16.InertiaDescartes", spec := "inertiaDescartes", unfollowed := true, recurses := true, apart := false, narrowed := true }
def InertiaDescartesUptoSaid : Prop := inertiaDescartesUptoRow.holds Try.pinned (OpenSpec.upto inertiaDescartesSpec)

/-- 'girderlaw16.InertiaRises', WHERE WHAT IT READS IS OF BULK AT MOST 1048576: true; the input reads as it did. -/
def inertiaRisesUptoRow : OpenClaim := { program := "ytlnelldekejadaa", sum := "5a1440c6fb30821a8ec45a83b1f221b10c965fd95237c422ef7f5420a2512d4a", func := "girder/girderlaw16.InertiaRises", spec := "inertiaRises", unfollowed := true, recurses := true, apart := false, narrowed := true }
def InertiaRisesUptoSaid : Prop := inertiaRisesUptoRow.holds Try.pinned (OpenSpec.upto inertiaRisesSpec)

end Rows
end Go.Proofs.Ytlnelldekejadaa
