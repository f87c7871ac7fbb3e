/-
  No cell of these rows narrows 'for every input' (looked for: loops, veiled, ifaces, maps, wideKeys, modest, calm, conditions, laid).
  DERIVED. THE GIVEN ROWS OF THIS SEAT. 6 by the template 'for every input the law returns true; each argument reads behind the call as it read before'; 0 by the template 'total and deterministic' (their statements: YtbegoalncgpbnaaTotals.lean).
  GIVEN WITH THE SEED: the statements are not yours to turn. If you find one false, say at which input.
  Laid BY PROGRAM, IN A SANDBOX (cutbox-rows.mjs): the forced cells as the released guide's own fill.sh prints them over the translation 0ac7ae656d7f62f5… (all of the seat's roots in one cut). By AI agents, Wed Nov 11 2026. No macro, syntax, notation, axiom, sorry.
-/
import Derived.Test.YtbegoalncgpbnaaChecked
import GoSem.Claim
import GoSem.ClaimJoined
import GoSem.ClaimMapViews
import Derived.JoinedTies
import Derived.KernelRfl
namespace Go.Proofs.Ytbegoalncgpbnaa
/- THE CELL 'sum', in the pinned program and in every row, IS THE sha256 OF THE DUMP (.gsa) THAT YtbegoalncgpbnaaProg.lean LOADS. Nothing in Lean hashes anything: it is a label: what it is worth is what the hold of that sum in a sandbox is worth. -/
noncomputable def Try.pinned : Pinned := { name := "ytbegoalncgpbnaa", sum := "0ac7ae656d7f62f597c7611d1d5107b1ee056ff3c74388bb17eaf04821a8015f", checked := Try.checked }
namespace Rows
def none {H : Type} : Left H := { results := [], args := [] }

/-- 'girderlaw10.MatrixTimes': WHATEVER THE INPUT: true; the input reads as it did. -/
def matrixTimesSpec : ChangeSpec := { name := "matrixTimes", fn := fun _ => fun
  | [d1, d2, d3] => { results := [.lit (.bool true)], args := [d1, d2, d3] }
  | _ => none }
def matrixTimesRow : OpenClaim := { program := "ytbegoalncgpbnaa", sum := "0ac7ae656d7f62f597c7611d1d5107b1ee056ff3c74388bb17eaf04821a8015f", func := "girder/girderlaw10.MatrixTimes", spec := "matrixTimes", inPlace := ["math.Float64bits"], unfollowed := true, recurses := true, apart := false }
def MatrixTimesSaid : Prop := matrixTimesRow.holds Try.pinned (OpenSpec.ofChange matrixTimesSpec)

/-- ITS FALSE NEIGHBOUR: 'it returns false'. Refute it at one input. -/
def matrixTimesWrong : ChangeSpec := { name := "matrixTimes", fn := fun _ => fun
  | [d1, d2, d3] => { results := [.lit (.bool false)], args := [d1, d2, d3] }
  | _ => none }
def MatrixTimesWrongFalsely : Prop := matrixTimesRow.holds Try.pinned (OpenSpec.ofChange matrixTimesWrong)

/-- 'girderlaw10.MatrixWhole': WHATEVER THE INPUT: true; the input reads as it did. -/
def matrixWholeSpec : ChangeSpec := { name := "matrixWhole", fn := fun _ => fun
  | [d1, d2, d3, d4, d5, d6, d7] => { results := [.lit (.bool true)], args := [d1, d2, d3, d4, d5, d6, d7] }
  | _ => none }
def matrixWholeRow : OpenClaim := { program := "ytbegoalncgpbnaa", sum := "0ac7ae656d7f62f597c7611d1d5107b1ee056ff3c74388bb17eaf04821a8015f", func := "girder/girderlaw10.MatrixWhole", spec := "matrixWhole", inPlace := ["math.Float64bits"], unfollowed := true, recurses := true, apart := false }
def MatrixWholeSaid : Prop := matrixWholeRow.holds Try.pinned (OpenSpec.ofChange matrixWholeSpec)

/-- ITS FALSE NEIGHBOUR: 'it returns false'. Refute it at one input. -/
def matrixWholeWrong : ChangeSpec := { name := "matrixWhole", fn := fun _ => fun
  | [d1, d2, d3, d4, d5, d6, d7] => { results := [.lit (.bool false)], args := [d1, d2, d3, d4, d5, d6, d7] }
  | _ => none }
def MatrixWholeWrongFalsely : Prop := matrixWholeRow.holds Try.pinned (OpenSpec.ofChange matrixWholeWrong)

/-- 'girderlaw10.MatrixTurns': WHATEVER THE INPUT: true; the input reads as it did. -/
def matrixTurnsSpec : ChangeSpec := { name := "matrixTurns", fn := fun _ => fun
  | [d1, d2, d3, d4, d5] => { results := [.lit (.bool true)], args := [d1, d2, d3, d4, d5] }
  | _ => none }
def matrixTurnsRow : OpenClaim := { program := "ytbegoalncgpbnaa", sum := "0ac7ae656d7f62f597c7611d1d5107b1ee056ff3c74388bb17eaf04821a8015f", func := "girder/girderlaw10.MatrixTurns", spec := "matrixTurns", inPlace := ["math.Float64bits"], unfollowed := true, recurses := true, apart := false }
def MatrixTurnsSaid : Prop := matrixTurnsRow.holds Try.pinned (OpenSpec.ofChange matrixTurnsSpec)

/-- ITS FALSE NEIGHBOUR: 'it returns false'. Refute it at one input. -/
def matrixTurnsWrong : ChangeSpec := { name := "matrixTurns", fn := fun _ => fun
  | [d1, d2, d3, d4, d5] => { results := [.lit (.bool false)], args := [d1, d2, d3, d4, d5] }
  | _ => none }
def MatrixTurnsWrongFalsely : Prop := matrixTurnsRow.holds Try.pinned (OpenSpec.ofChange matrixTurnsWrong)

/-- 'girderlaw10.MatrixSizes': WHATEVER THE INPUT: true; the input reads as it did. -/
def matrixSizesSpec : ChangeSpec := { name := "matrixSizes", fn := fun _ => fun
  | [d1, d2, d3, d4] => { results := [.lit (.bool true)], args := [d1, d2, d3, d4] }
  | _ => none }
def matrixSizesRow : OpenClaim := { program := "ytbegoalncgpbnaa", sum := "0ac7ae656d7f62f597c7611d1d5107b1ee056ff3c74388bb17eaf04821a8015f", func := "girder/girderlaw10.MatrixSizes", spec := "matrixSizes", inPlace := ["math.Float64bits", "math.Float64frombits"], unfollowed := true, recurses := true, apart := false }
def MatrixSizesSaid : Prop := matrixSizesRow.holds Try.pinned (OpenSpec.ofChange matrixSizesSpec)

/-- ITS FALSE NEIGHBOUR: 'it returns false'. Refute it at one input. -/
def matrixSizesWrong : ChangeSpec := { name := "matrixSizes", fn := fun _ => fun
  | [d1, d2, d3, d4] => { results := [.lit (.bool false)], args := [d1, d2, d3, d4] }
  | _ => none }
def MatrixSizesWrongFalsely : Prop := matrixSizesRow.holds Try.pinned (OpenSpec.ofChange matrixSizesWrong)

/-- 'girderlaw10.MatrixTells': WHATEVER THE INPUT: true; the input reads as it did. -/
def matrixTellsSpec : ChangeSpec := { name := "matrixTells", fn := fun _ => fun
  | [d1, d2, d3, d4] => { results := [.lit (.bool true)], args := [d1, d2, d3, d4] }
  | _ => none }
def matrixTellsRow : OpenClaim := { program := "ytbegoalncgpbnaa", sum := "0ac7ae656d7f62f597c7611d1d5107b1ee056ff3c74388bb17eaf04821a8015f", func := "girder/girderlaw10.MatrixTells", spec := "matrixTells", inPlace := ["math.Float64bits", "math.Float64frombits"], unfollowed := true, recurses := true, apart := false }
def MatrixTellsSaid : Prop := matrixTellsRow.holds Try.pinned (OpenSpec.ofChange matrixTellsSpec)

/-- ITS FALSE NEIGHBOUR: 'it returns false'. Refute it at one input. -/
def matrixTellsWrong : ChangeSpec := { name := "matrixTells", fn := fun _ => fun
  | [d1, d2, d3, d4] => { results := [.lit (.bool false)], args := [d1, d2, d3, d4] }
  | _ => none }
def MatrixTellsWrongFalsely : Prop := matrixTellsRow.holds Try.pinned (OpenSpec.ofChange matrixTellsWrong)

/-- 'girderlaw10.MatrixNumbers': WHATEVER THE INPUT: true; the input reads as it did. -/
def matrixNumbersSpec : ChangeSpec := { name := "matrixNumbers", fn := fun _ => fun
  | [] => { results := [.lit (.bool true)], args := [] }
  | _ => none }
def matrixNumbersRow : OpenClaim := { program := "ytbegoalncgpbnaa", sum := "0ac7ae656d7f62f597c7611d1d5107b1ee056ff3c74388bb17eaf04821a8015f", func := "girder/girderlaw10.MatrixNumbers", spec := "matrixNumbers", inPlace := ["math.Float64bits", "math.Float64frombits"], unfollowed := true, recurses := true, apart := false }
def MatrixNumbersSaid : Prop := matrixNumbersRow.holds Try.pinned (OpenSpec.ofChange matrixNumbersSpec)

/-- ITS FALSE NEIGHBOUR: 'it returns false'. Refute it at one input. -/
def matrixNumbersWrong : ChangeSpec := { name := "matrixNumbers", fn := fun _ => fun
  | [] => { results := [.lit (.bool false)], args := [] }
  | _ => none }
def MatrixNumbersWrongFalsely : Prop := matrixNumbersRow.holds Try.pinned (OpenSpec.ofChange matrixNumbersWrong)

/- THE SECOND FORM. 'bulk': how many values and letters a reading holds, each counted each time it is reached (what is shared counts as often as it is met; a slice's spare places count too). A statement '..UptoSaid' is the law's where the arguments, and the package variables that the reading takes, are together of bulk at most 1048576: NARROWER than '..Said'. Prove '..Said' where nothing that the law and all that it calls make is longer than what came in: it says more and counts as full. Else prove '..UptoSaid'. A law counts once. -/
mutual
def uptoBulk {H : Type} : DataW H → Nat
  | .lit (.string bytes) => bytes.length + 1
  | .lit _ => 1
  | .nil => 1
  | .ptr d => uptoBulk d + 1
  | .slice elems spare => uptoBulkAll elems + uptoBulkAll spare + 1
  | .agg parts => uptoBulkAll parts + 1
  | .iface _ d => uptoBulk d + 1
  | .map entries => uptoBulkEntries entries + 1
  | .held _ => 1
def uptoBulkAll {H : Type} : List (DataW H) → Nat
  | [] => 0
  | d :: r => uptoBulk d + uptoBulkAll r
def uptoBulkEntries {H : Type} : List (Lit × DataW H) → Nat
  | [] => 0
  | x :: r => uptoBulkEntry x + uptoBulkEntries r
def uptoBulkEntry {H : Type} : Lit × DataW H → Nat
  | (.string bytes, d) => bytes.length + uptoBulk d + 1
  | (_, d) => uptoBulk d + 1
 end
def uptoSmall : (H : Type) → List (DataW H) → Bool := fun _ ds => decide (uptoBulkAll ds ≤ 1048576)
def OpenSpec.upto (s : _root_.Go.ChangeSpec) : _root_.Go.OpenSpec := { _root_.Go.OpenSpec.ofChange s with cond := some uptoSmall }

/-- 'girderlaw10.MatrixTimes', WHERE WHAT IT READS IS OF BULK AT MOST 1048576: true; the input reads as it did. -/
def matrixTimesUptoRow : OpenClaim := { program := "ytbegoalncgpbnaa", sum := "0ac7ae656d7f62f597c7611d1d5107b1ee056ff3c74388bb17eaf04821a8015f", func := "girder/girderlaw10.MatrixTimes", spec := "matrixTimes", inPlace := ["math.Float64bits"], unfollowed := true, recurses := true, apart := false, narrowed := true }
def MatrixTimesUptoSaid : Prop := matrixTimesUptoRow.holds Try.pinned (OpenSpec.upto matrixTimesSpec)

/-- 'girderlaw10.MatrixWhole', WHERE WHAT IT READS IS OF BULK AT MOST 1048576: true; the input reads as it did. -/
def matrixWholeUptoRow : OpenClaim := { program := "ytbegoalncgpbnaa", sum := "0ac7ae656d7f62f597c7611d1d5107b1ee056ff3c74388bb17eaf04821a8015f", func := "girder/girderlaw10.MatrixWhole", spec := "matrixWhole", inPlace := ["math.Float64bits"], unfollowed := true, recurses := true, apart := false, narrowed := true }
def MatrixWholeUptoSaid : Prop := matrixWholeUptoRow.holds Try.pinned (OpenSpec.upto matrixWholeSpec)

/-- 'girderlaw10.MatrixTurns', WHERE WHAT IT READS IS OF BULK AT MOST 1048576: true; the input reads as it did. -/
def matrixTurnsUptoRow : OpenClaim := { program := "ytbegoalncgpbnaa", sum := "0ac7ae656d7f62f597c7611d1d5107b1ee056ff3c74388bb17eaf04821a8015f", func := "girder/girderlaw10.MatrixTurns", spec := "matrixTurns", inPlace := ["math.Float64bits"], unfollowed := true, recurses := true, apart := false, narrowed := true }
def MatrixTurnsUptoSaid : Prop := matrixTurnsUptoRow.holds Try.pinned (OpenSpec.upto matrixTurnsSpec)

/-- 'girderlaw10.MatrixSizes', WHERE WHAT IT READS IS OF BULK AT MOST 1048576: true; the input reads as it did. -/
def matrixSizesUptoRow : OpenClaim := { program := "ytbegoalncgpbnaa", sum := "0ac7ae656d7f62f597c7611d1d5107b1ee056ff3c74388bb17eaf04821a8015f", func := "girder/girderlaw10.MatrixSizes", spec := "matrixSizes", inPlace := ["math.Float64bits", "math.Float64frombits"], unfollowed := true, recurses := true, apart := false, narrowed := true }
def MatrixSizesUptoSaid : Prop := matrixSizesUptoRow.holds Try.pinned (OpenSpec.upto matrixSizesSpec)

/-- 'girderlaw10.MatrixTells', WHERE WHAT IT READS IS OF BULK AT MOST 1048576: true; the input reads as it did. -/
def matrixTellsUptoRow : OpenClaim := { program := "ytbegoalncgpbnaa", sum := "0ac7ae656d7f62f597c7611d1d5107b1ee056ff3c74388bb17eaf04821a8015f", func := "girder/girderlaw10.MatrixTells", spec := "matrixTells", inPlace := ["math.Float64bits", "math.Float64frombits"], unfollowed := true, recurses := true, apart := false, narrowed := true }
def MatrixTellsUptoSaid : Prop := matrixTellsUptoRow.holds Try.pinned (OpenSpec.upto matrixTellsSpec)

/-- 'girderlaw10.MatrixNumbers', WHERE WHAT IT READS IS OF BULK AT MOST 1048576: true; the input reads as it did. -/
def matrixNumbersUptoRow : OpenClaim := { program := "ytbegoalncgpbnaa", sum := "0ac7ae656d7f62f597c7611d1d5107b1ee056ff3c74388bb17eaf04821a8015f", func := "girder/girderlaw10.MatrixNumbers", spec := "matrixNumbers", inPlace := ["math.Float64bits", "math.Float64frombits"], unfollowed := true, recurses := true, apart := false, narrowed := true }
def MatrixNumbersUptoSaid : Prop := matrixNumbersUptoRow.holds Try.pinned (OpenSpec.upto matrixNumbersSpec)

end Rows
end Go.Proofs.Ytbegoalncgpbnaa
