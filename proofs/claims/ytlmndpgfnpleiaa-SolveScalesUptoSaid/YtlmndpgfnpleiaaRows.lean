/-
  No cell of these rows narrows 'for every input' (looked for: loops, veiled, ifaces, maps, wideKeys, modest, calm, conditions, laid).
  DERIVED. THE GIVEN ROWS OF THIS SEAT. 5 by the template 'for every input the law returns true; each argument reads behind the call as it read before'; 0 by the template 'total and deterministic' (their statements: YtlmndpgfnpleiaaTotals.lean).
  GIVEN WITH THE SEED: the statements are not yours to turn. If you find one false, say at which input.
  Laid BY PROGRAM, IN A SANDBOX (cutbox-rows.mjs): the forced cells as the released guide's own fill.sh prints them over the translation 9704b20ed91c3015… (all of the seat's roots in one cut). By AI agents, Wed Nov 11 2026. No macro, syntax, notation, axiom, sorry.
-/
import Derived.Test.YtlmndpgfnpleiaaChecked
import GoSem.Claim
import GoSem.ClaimJoined
import GoSem.ClaimMapViews
import Derived.JoinedTies
import Derived.KernelRfl
namespace Go.Proofs.Ytlmndpgfnpleiaa
/- THE CELL 'sum', in the pinned program and in every row, IS THE sha256 OF THE DUMP (.gsa) THAT YtlmndpgfnpleiaaProg.lean LOADS. Nothing in Lean hashes anything: it is a label: what it is worth is what the hold of that sum in a sandbox is worth. -/
noncomputable def Try.pinned : Pinned := { name := "ytlmndpgfnpleiaa", sum := "9704b20ed91c3015fa2f99c78dbee339354baf7a422ad58a4c4943b5ae835e0d", checked := Try.checked }
namespace Rows
def none {H : Type} : Left H := { results := [], args := [] }

/-- 'girderlaw13.SolveTells': WHATEVER THE INPUT: true; the input reads as it did. -/
def solveTellsSpec : ChangeSpec := { name := "solveTells", fn := fun _ => fun
  | [d1, d2] => { results := [.lit (.bool true)], args := [d1, d2] }
  | _ => none }
def solveTellsRow : OpenClaim := { program := "ytlmndpgfnpleiaa", sum := "9704b20ed91c3015fa2f99c78dbee339354baf7a422ad58a4c4943b5ae835e0d", func := "girder/girderlaw13.SolveTells", spec := "solveTells", inPlace := ["math.Float64bits"], unfollowed := true, recurses := true, apart := false }
def SolveTellsSaid : Prop := solveTellsRow.holds Try.pinned (OpenSpec.ofChange solveTellsSpec)

/-- ITS FALSE NEIGHBOUR: 'it returns false'. Refute it at one input. -/
def solveTellsWrong : ChangeSpec := { name := "solveTells", fn := fun _ => fun
  | [d1, d2] => { results := [.lit (.bool false)], args := [d1, d2] }
  | _ => none }
def SolveTellsWrongFalsely : Prop := solveTellsRow.holds Try.pinned (OpenSpec.ofChange solveTellsWrong)

/-- 'girderlaw13.SolveWhole': WHATEVER THE INPUT: true; the input reads as it did. -/
def solveWholeSpec : ChangeSpec := { name := "solveWhole", fn := fun _ => fun
  | [d1, d2, d3] => { results := [.lit (.bool true)], args := [d1, d2, d3] }
  | _ => none }
def solveWholeRow : OpenClaim := { program := "ytlmndpgfnpleiaa", sum := "9704b20ed91c3015fa2f99c78dbee339354baf7a422ad58a4c4943b5ae835e0d", func := "girder/girderlaw13.SolveWhole", spec := "solveWhole", inPlace := ["math.Float64bits"], unfollowed := true, recurses := true, apart := false }
def SolveWholeSaid : Prop := solveWholeRow.holds Try.pinned (OpenSpec.ofChange solveWholeSpec)

/-- ITS FALSE NEIGHBOUR: 'it returns false'. Refute it at one input. -/
def solveWholeWrong : ChangeSpec := { name := "solveWhole", fn := fun _ => fun
  | [d1, d2, d3] => { results := [.lit (.bool false)], args := [d1, d2, d3] }
  | _ => none }
def SolveWholeWrongFalsely : Prop := solveWholeRow.holds Try.pinned (OpenSpec.ofChange solveWholeWrong)

/-- 'girderlaw13.SolveTurns': WHATEVER THE INPUT: true; the input reads as it did. -/
def solveTurnsSpec : ChangeSpec := { name := "solveTurns", fn := fun _ => fun
  | [d1, d2] => { results := [.lit (.bool true)], args := [d1, d2] }
  | _ => none }
def solveTurnsRow : OpenClaim := { program := "ytlmndpgfnpleiaa", sum := "9704b20ed91c3015fa2f99c78dbee339354baf7a422ad58a4c4943b5ae835e0d", func := "girder/girderlaw13.SolveTurns", spec := "solveTurns", inPlace := ["math.Float64bits"], unfollowed := true, recurses := true, apart := false }
def SolveTurnsSaid : Prop := solveTurnsRow.holds Try.pinned (OpenSpec.ofChange solveTurnsSpec)

/-- ITS FALSE NEIGHBOUR: 'it returns false'. Refute it at one input. -/
def solveTurnsWrong : ChangeSpec := { name := "solveTurns", fn := fun _ => fun
  | [d1, d2] => { results := [.lit (.bool false)], args := [d1, d2] }
  | _ => none }
def SolveTurnsWrongFalsely : Prop := solveTurnsRow.holds Try.pinned (OpenSpec.ofChange solveTurnsWrong)

/-- 'girderlaw13.SolveScales': WHATEVER THE INPUT: true; the input reads as it did. -/
def solveScalesSpec : ChangeSpec := { name := "solveScales", fn := fun _ => fun
  | [d1, d2, d3, d4, d5] => { results := [.lit (.bool true)], args := [d1, d2, d3, d4, d5] }
  | _ => none }
def solveScalesRow : OpenClaim := { program := "ytlmndpgfnpleiaa", sum := "9704b20ed91c3015fa2f99c78dbee339354baf7a422ad58a4c4943b5ae835e0d", func := "girder/girderlaw13.SolveScales", spec := "solveScales", inPlace := ["math.Float64bits"], unfollowed := true, recurses := true, apart := false }
def SolveScalesSaid : Prop := solveScalesRow.holds Try.pinned (OpenSpec.ofChange solveScalesSpec)

/-- ITS FALSE NEIGHBOUR: 'it returns false'. Refute it at one input. -/
def solveScalesWrong : ChangeSpec := { name := "solveScales", fn := fun _ => fun
  | [d1, d2, d3, d4, d5] => { results := [.lit (.bool false)], args := [d1, d2, d3, d4, d5] }
  | _ => none }
def SolveScalesWrongFalsely : Prop := solveScalesRow.holds Try.pinned (OpenSpec.ofChange solveScalesWrong)

/-- 'girderlaw13.SolveNumbers': WHATEVER THE INPUT: true; the input reads as it did. -/
def solveNumbersSpec : ChangeSpec := { name := "solveNumbers", fn := fun _ => fun
  | [] => { results := [.lit (.bool true)], args := [] }
  | _ => none }
def solveNumbersRow : OpenClaim := { program := "ytlmndpgfnpleiaa", sum := "9704b20ed91c3015fa2f99c78dbee339354baf7a422ad58a4c4943b5ae835e0d", func := "girder/girderlaw13.SolveNumbers", spec := "solveNumbers", inPlace := ["math.Float64bits", "math.Float64frombits"], unfollowed := true, recurses := true, apart := false }
def SolveNumbersSaid : Prop := solveNumbersRow.holds Try.pinned (OpenSpec.ofChange solveNumbersSpec)

/-- ITS FALSE NEIGHBOUR: 'it returns false'. Refute it at one input. -/
def solveNumbersWrong : ChangeSpec := { name := "solveNumbers", fn := fun _ => fun
  | [] => { results := [.lit (.bool false)], args := [] }
  | _ => none }
def SolveNumbersWrongFalsely : Prop := solveNumbersRow.holds Try.pinned (OpenSpec.ofChange solveNumbersWrong)

/- THE SECOND FORM. 'bulk': how many values and letters a reading holds, each counted each time it is reached (what is shared counts as often as it is met; a slice's spare places count too). A statement '..UptoSaid' is the law's where the arguments, and the package variables that the reading takes, are together of bulk at most 1048576: NARROWER than '..Said'. Prove '..Said' where nothing that the law and all that it calls make is longer than what came in: it says more and counts as full. Else prove '..UptoSaid'. A law counts once. -/
mutual
def uptoBulk {H : Type} : DataW H → Nat
  | .lit (.string bytes) => bytes.length + 1
  | .lit _ => 1
  | .nil => 1
  | .ptr d => uptoBulk d + 1
  | .slice elems spare => uptoBulkAll elems + uptoBulkAll spare + 1
  | .agg parts => uptoBulkAll parts + 1
  | .iface _ d => uptoBulk d + 1
  | .map entries => uptoBulkEntries entries + 1
  | .held _ => 1
def uptoBulkAll {H : Type} : List (DataW H) → Nat
  | [] => 0
  | d :: r => uptoBulk d + uptoBulkAll r
def uptoBulkEntries {H : Type} : List (Lit × DataW H) → Nat
  | [] => 0
  | x :: r => uptoBulkEntry x + uptoBulkEntries r
def uptoBulkEntry {H : Type} : Lit × DataW H → Nat
  | (.string bytes, d) => bytes.length + uptoBulk d + 1
  | (_, d) => uptoBulk d + 1
 end
def uptoSmall : (H : Type) → List (DataW H) → Bool := fun _ ds => decide (uptoBulkAll ds ≤ 1048576)
def OpenSpec.upto (s : _root_.Go.ChangeSpec) : _root_.Go.OpenSpec := { _root_.Go.OpenSpec.ofChange s with cond := some uptoSmall }

/-- 'girderlaw13.SolveTells', WHERE WHAT IT READS IS OF BULK AT MOST 1048576: true; the input reads as it did. -/
def solveTellsUptoRow : OpenClaim := { program := "ytlmndpgfnpleiaa", sum := "9704b20ed91c3015fa2f99c78dbee339354baf7a422ad58a4c4943b5ae835e0d", func := "girder/girderlaw13.SolveTells", spec := "solveTells", inPlace := ["math.Float64bits"], unfollowed := true, recurses := true, apart := false, narrowed := true }
def SolveTellsUptoSaid : Prop := solveTellsUptoRow.holds Try.pinned (OpenSpec.upto solveTellsSpec)

/-- 'girderlaw13.SolveWhole', WHERE WHAT IT READS IS OF BULK AT MOST 1048576: true; the input reads as it did. -/
def solveWholeUptoRow : OpenClaim := { program := "ytlmndpgfnpleiaa", sum := "9704b20ed91c3015fa2f99c78dbee339354baf7a422ad58a4c4943b5ae835e0d", func := "girder/girderlaw13.SolveWhole", spec := "solveWhole", inPlace := ["math.Float64bits"], unfollowed := true, recurses := true, apart := false, narrowed := true }
def SolveWholeUptoSaid : Prop := solveWholeUptoRow.holds Try.pinned (OpenSpec.upto solveWholeSpec)

/-- 'girderlaw13.SolveTurns', WHERE WHAT IT READS IS OF BULK AT MOST 1048576: true; the input reads as it did. -/
def solveTurnsUptoRow : OpenClaim := { program := "ytlmndpgfnpleiaa", sum := "9704b20ed91c3015fa2f99c78dbee339354baf7a422ad58a4c4943b5ae835e0d", func := "girder/girderlaw13.SolveTurns", spec := "solveTurns", inPlace := ["math.Float64bits"], unfollowed := true, recurses := true, apart := false, narrowed := true }
def SolveTurnsUptoSaid : Prop := solveTurnsUptoRow.holds Try.pinned (OpenSpec.upto solveTurnsSpec)

/-- 'girderlaw13.SolveScales', WHERE WHAT IT READS IS OF BULK AT MOST 1048576: true; the input reads as it did. -/
def solveScalesUptoRow : OpenClaim := { program := "ytlmndpgfnpleiaa", sum := "9704b20ed91c3015fa2f99c78dbee339354baf7a422ad58a4c4943b5ae835e0d", func := "girder/girderlaw13.SolveScales", spec := "solveScales", inPlace := ["math.Float64bits"], unfollowed := true, recurses := true, apart := false, narrowed := true }
def SolveScalesUptoSaid : Prop := solveScalesUptoRow.holds Try.pinned (OpenSpec.upto solveScalesSpec)

/-- 'girderlaw13.SolveNumbers', WHERE WHAT IT READS IS OF BULK AT MOST 1048576: true; the input reads as it did. -/
def solveNumbersUptoRow : OpenClaim := { program := "ytlmndpgfnpleiaa", sum := "9704b20ed91c3015fa2f99c78dbee339354baf7a422ad58a4c4943b5ae835e0d", func := "girder/girderlaw13.SolveNumbers", spec := "solveNumbers", inPlace := ["math.Float64bits", "math.Float64frombits"], unfollowed := true, recurses := true, apart := false, narrowed := true }
def SolveNumbersUptoSaid : Prop := solveNumbersUptoRow.holds Try.pinned (OpenSpec.upto solveNumbersSpec)

end Rows
end Go.Proofs.Ytlmndpgfnpleiaa
