/-
  No cell of these rows narrows 'for every input' (looked for: loops, veiled, ifaces, maps, wideKeys, modest, calm, conditions, laid).
  DERIVED. THE GIVEN ROWS OF THIS SEAT. 12 by the template 'for every input the law returns true; each argument reads behind the call as it read before'; 0 by the template 'total and deterministic' (their statements: YtaanmomgjgoieaaTotals.lean).
  GIVEN WITH THE SEED: the statements are not yours to turn. If you find one false, say at which input.
  Laid BY PROGRAM, IN A SANDBOX (cutbox-rows.mjs): the forced cells as the released guide's own fill.sh prints them over the translation 3311a56af0d59429… (all of the seat's roots in one cut). By AI agents, Wed Nov 11 2026. No macro, syntax, notation, axiom, sorry.
-/
import Derived.Test.YtaanmomgjgoieaaChecked
import GoSem.Claim
import GoSem.ClaimJoined
import GoSem.ClaimMapViews
import Derived.JoinedTies
import Derived.KernelRfl
namespace Go.Proofs.Ytaanmomgjgoieaa
/- THE CELL 'sum', in the pinned program and in every row, IS THE sha256 OF THE DUMP (.gsa) THAT YtaanmomgjgoieaaProg.lean LOADS. Nothing in Lean hashes anything: it is a label: what it is worth is what the hold of that sum in a sandbox is worth. -/
noncomputable def Try.pinned : Pinned := { name := "ytaanmomgjgoieaa", sum := "3311a56af0d594294b8f42b657743276348bfb3805a7963735357a1802d9bf87", checked := Try.checked }
namespace Rows
def none {H : Type} : Left H := { results := [], args := [] }

/-- 'laws.FnExactEventOk': WHATEVER THE INPUT: true; the input reads as it did. -/
def fnExactEventOkSpec : ChangeSpec := { name := "fnExactEventOk", fn := fun _ => fun
  | [d1, d2] => { results := [.lit (.bool true)], args := [d1, d2] }
  | _ => none }
def fnExactEventOkRow : OpenClaim := { program := "ytaanmomgjgoieaa", sum := "3311a56af0d594294b8f42b657743276348bfb3805a7963735357a1802d9bf87", func := "loop.example/g00130/laws.FnExactEventOk", spec := "fnExactEventOk", apart := false }
def FnExactEventOkSaid : Prop := fnExactEventOkRow.holds Try.pinned (OpenSpec.ofChange fnExactEventOkSpec)

/-- ITS FALSE NEIGHBOUR: 'it returns false'. Refute it at one input. -/
def fnExactEventOkWrong : ChangeSpec := { name := "fnExactEventOk", fn := fun _ => fun
  | [d1, d2] => { results := [.lit (.bool false)], args := [d1, d2] }
  | _ => none }
def FnExactEventOkWrongFalsely : Prop := fnExactEventOkRow.holds Try.pinned (OpenSpec.ofChange fnExactEventOkWrong)

/-- 'laws.FnInside': WHATEVER THE INPUT: true; the input reads as it did. -/
def fnInsideSpec : ChangeSpec := { name := "fnInside", fn := fun _ => fun
  | [d] => { results := [.lit (.bool true)], args := [d] }
  | _ => none }
def fnInsideRow : OpenClaim := { program := "ytaanmomgjgoieaa", sum := "3311a56af0d594294b8f42b657743276348bfb3805a7963735357a1802d9bf87", func := "loop.example/g00130/laws.FnInside", spec := "fnInside", apart := false }
def FnInsideSaid : Prop := fnInsideRow.holds Try.pinned (OpenSpec.ofChange fnInsideSpec)

/-- ITS FALSE NEIGHBOUR: 'it returns false'. Refute it at one input. -/
def fnInsideWrong : ChangeSpec := { name := "fnInside", fn := fun _ => fun
  | [d] => { results := [.lit (.bool false)], args := [d] }
  | _ => none }
def FnInsideWrongFalsely : Prop := fnInsideRow.holds Try.pinned (OpenSpec.ofChange fnInsideWrong)

/-- 'laws.FnExactInside': WHATEVER THE INPUT: true; the input reads as it did. -/
def fnExactInsideSpec : ChangeSpec := { name := "fnExactInside", fn := fun _ => fun
  | [d1, d2, d3] => { results := [.lit (.bool true)], args := [d1, d2, d3] }
  | _ => none }
def fnExactInsideRow : OpenClaim := { program := "ytaanmomgjgoieaa", sum := "3311a56af0d594294b8f42b657743276348bfb3805a7963735357a1802d9bf87", func := "loop.example/g00130/laws.FnExactInside", spec := "fnExactInside", apart := false }
def FnExactInsideSaid : Prop := fnExactInsideRow.holds Try.pinned (OpenSpec.ofChange fnExactInsideSpec)

/-- ITS FALSE NEIGHBOUR: 'it returns false'. Refute it at one input. -/
def fnExactInsideWrong : ChangeSpec := { name := "fnExactInside", fn := fun _ => fun
  | [d1, d2, d3] => { results := [.lit (.bool false)], args := [d1, d2, d3] }
  | _ => none }
def FnExactInsideWrongFalsely : Prop := fnExactInsideRow.holds Try.pinned (OpenSpec.ofChange fnExactInsideWrong)

/-- 'laws.FnGraphs': WHATEVER THE INPUT: true; the input reads as it did. -/
def fnGraphsSpec : ChangeSpec := { name := "fnGraphs", fn := fun _ => fun
  | [d] => { results := [.lit (.bool true)], args := [d] }
  | _ => none }
def fnGraphsRow : OpenClaim := { program := "ytaanmomgjgoieaa", sum := "3311a56af0d594294b8f42b657743276348bfb3805a7963735357a1802d9bf87", func := "loop.example/g00130/laws.FnGraphs", spec := "fnGraphs", apart := false }
def FnGraphsSaid : Prop := fnGraphsRow.holds Try.pinned (OpenSpec.ofChange fnGraphsSpec)

/-- ITS FALSE NEIGHBOUR: 'it returns false'. Refute it at one input. -/
def fnGraphsWrong : ChangeSpec := { name := "fnGraphs", fn := fun _ => fun
  | [d] => { results := [.lit (.bool false)], args := [d] }
  | _ => none }
def FnGraphsWrongFalsely : Prop := fnGraphsRow.holds Try.pinned (OpenSpec.ofChange fnGraphsWrong)

/-- 'laws.FnExactInTime': WHATEVER THE INPUT: true; the input reads as it did. -/
def fnExactInTimeSpec : ChangeSpec := { name := "fnExactInTime", fn := fun _ => fun
  | [d1, d2] => { results := [.lit (.bool true)], args := [d1, d2] }
  | _ => none }
def fnExactInTimeRow : OpenClaim := { program := "ytaanmomgjgoieaa", sum := "3311a56af0d594294b8f42b657743276348bfb3805a7963735357a1802d9bf87", func := "loop.example/g00130/laws.FnExactInTime", spec := "fnExactInTime", apart := false }
def FnExactInTimeSaid : Prop := fnExactInTimeRow.holds Try.pinned (OpenSpec.ofChange fnExactInTimeSpec)

/-- ITS FALSE NEIGHBOUR: 'it returns false'. Refute it at one input. -/
def fnExactInTimeWrong : ChangeSpec := { name := "fnExactInTime", fn := fun _ => fun
  | [d1, d2] => { results := [.lit (.bool false)], args := [d1, d2] }
  | _ => none }
def FnExactInTimeWrongFalsely : Prop := fnExactInTimeRow.holds Try.pinned (OpenSpec.ofChange fnExactInTimeWrong)

/-- 'laws.FnExactWholeEdges': WHATEVER THE INPUT: true; the input reads as it did. -/
def fnExactWholeEdgesSpec : ChangeSpec := { name := "fnExactWholeEdges", fn := fun _ => fun
  | [d1, d2] => { results := [.lit (.bool true)], args := [d1, d2] }
  | _ => none }
def fnExactWholeEdgesRow : OpenClaim := { program := "ytaanmomgjgoieaa", sum := "3311a56af0d594294b8f42b657743276348bfb3805a7963735357a1802d9bf87", func := "loop.example/g00130/laws.FnExactWholeEdges", spec := "fnExactWholeEdges", apart := false }
def FnExactWholeEdgesSaid : Prop := fnExactWholeEdgesRow.holds Try.pinned (OpenSpec.ofChange fnExactWholeEdgesSpec)

/-- ITS FALSE NEIGHBOUR: 'it returns false'. Refute it at one input. -/
def fnExactWholeEdgesWrong : ChangeSpec := { name := "fnExactWholeEdges", fn := fun _ => fun
  | [d1, d2] => { results := [.lit (.bool false)], args := [d1, d2] }
  | _ => none }
def FnExactWholeEdgesWrongFalsely : Prop := fnExactWholeEdgesRow.holds Try.pinned (OpenSpec.ofChange fnExactWholeEdgesWrong)

/-- 'laws.FnExactOrderText': WHATEVER THE INPUT: true; the input reads as it did. -/
def fnExactOrderTextSpec : ChangeSpec := { name := "fnExactOrderText", fn := fun _ => fun
  | [d1, d2] => { results := [.lit (.bool true)], args := [d1, d2] }
  | _ => none }
def fnExactOrderTextRow : OpenClaim := { program := "ytaanmomgjgoieaa", sum := "3311a56af0d594294b8f42b657743276348bfb3805a7963735357a1802d9bf87", func := "loop.example/g00130/laws.FnExactOrderText", spec := "fnExactOrderText", apart := false }
def FnExactOrderTextSaid : Prop := fnExactOrderTextRow.holds Try.pinned (OpenSpec.ofChange fnExactOrderTextSpec)

/-- ITS FALSE NEIGHBOUR: 'it returns false'. Refute it at one input. -/
def fnExactOrderTextWrong : ChangeSpec := { name := "fnExactOrderText", fn := fun _ => fun
  | [d1, d2] => { results := [.lit (.bool false)], args := [d1, d2] }
  | _ => none }
def FnExactOrderTextWrongFalsely : Prop := fnExactOrderTextRow.holds Try.pinned (OpenSpec.ofChange fnExactOrderTextWrong)

/-- 'laws.FnSplits': WHATEVER THE INPUT: true; the input reads as it did. -/
def fnSplitsSpec : ChangeSpec := { name := "fnSplits", fn := fun _ => fun
  | [d] => { results := [.lit (.bool true)], args := [d] }
  | _ => none }
def fnSplitsRow : OpenClaim := { program := "ytaanmomgjgoieaa", sum := "3311a56af0d594294b8f42b657743276348bfb3805a7963735357a1802d9bf87", func := "loop.example/g00130/laws.FnSplits", spec := "fnSplits", recurses := true, apart := false }
def FnSplitsSaid : Prop := fnSplitsRow.holds Try.pinned (OpenSpec.ofChange fnSplitsSpec)

/-- ITS FALSE NEIGHBOUR: 'it returns false'. Refute it at one input. -/
def fnSplitsWrong : ChangeSpec := { name := "fnSplits", fn := fun _ => fun
  | [d] => { results := [.lit (.bool false)], args := [d] }
  | _ => none }
def FnSplitsWrongFalsely : Prop := fnSplitsRow.holds Try.pinned (OpenSpec.ofChange fnSplitsWrong)

/-- 'laws.FnTours': WHATEVER THE INPUT: true; the input reads as it did. -/
def fnToursSpec : ChangeSpec := { name := "fnTours", fn := fun _ => fun
  | [d] => { results := [.lit (.bool true)], args := [d] }
  | _ => none }
def fnToursRow : OpenClaim := { program := "ytaanmomgjgoieaa", sum := "3311a56af0d594294b8f42b657743276348bfb3805a7963735357a1802d9bf87", func := "loop.example/g00130/laws.FnTours", spec := "fnTours", recurses := true, apart := false }
def FnToursSaid : Prop := fnToursRow.holds Try.pinned (OpenSpec.ofChange fnToursSpec)

/-- ITS FALSE NEIGHBOUR: 'it returns false'. Refute it at one input. -/
def fnToursWrong : ChangeSpec := { name := "fnTours", fn := fun _ => fun
  | [d] => { results := [.lit (.bool false)], args := [d] }
  | _ => none }
def FnToursWrongFalsely : Prop := fnToursRow.holds Try.pinned (OpenSpec.ofChange fnToursWrong)

/-- 'laws.FnLabels': WHATEVER THE INPUT: true; the input reads as it did. -/
def fnLabelsSpec : ChangeSpec := { name := "fnLabels", fn := fun _ => fun
  | [d] => { results := [.lit (.bool true)], args := [d] }
  | _ => none }
def fnLabelsRow : OpenClaim := { program := "ytaanmomgjgoieaa", sum := "3311a56af0d594294b8f42b657743276348bfb3805a7963735357a1802d9bf87", func := "loop.example/g00130/laws.FnLabels", spec := "fnLabels", apart := false }
def FnLabelsSaid : Prop := fnLabelsRow.holds Try.pinned (OpenSpec.ofChange fnLabelsSpec)

/-- ITS FALSE NEIGHBOUR: 'it returns false'. Refute it at one input. -/
def fnLabelsWrong : ChangeSpec := { name := "fnLabels", fn := fun _ => fun
  | [d] => { results := [.lit (.bool false)], args := [d] }
  | _ => none }
def FnLabelsWrongFalsely : Prop := fnLabelsRow.holds Try.pinned (OpenSpec.ofChange fnLabelsWrong)

/-- 'laws.FnTourOf': WHATEVER THE INPUT: true; the input reads as it did. -/
def fnTourOfSpec : ChangeSpec := { name := "fnTourOf", fn := fun _ => fun
  | [d] => { results := [.lit (.bool true)], args := [d] }
  | _ => none }
def fnTourOfRow : OpenClaim := { program := "ytaanmomgjgoieaa", sum := "3311a56af0d594294b8f42b657743276348bfb3805a7963735357a1802d9bf87", func := "loop.example/g00130/laws.FnTourOf", spec := "fnTourOf", recurses := true, apart := false }
def FnTourOfSaid : Prop := fnTourOfRow.holds Try.pinned (OpenSpec.ofChange fnTourOfSpec)

/-- ITS FALSE NEIGHBOUR: 'it returns false'. Refute it at one input. -/
def fnTourOfWrong : ChangeSpec := { name := "fnTourOf", fn := fun _ => fun
  | [d] => { results := [.lit (.bool false)], args := [d] }
  | _ => none }
def FnTourOfWrongFalsely : Prop := fnTourOfRow.holds Try.pinned (OpenSpec.ofChange fnTourOfWrong)

/-- 'laws.FnExactAnswerText': WHATEVER THE INPUT: true; the input reads as it did. -/
def fnExactAnswerTextSpec : ChangeSpec := { name := "fnExactAnswerText", fn := fun _ => fun
  | [d1, d2] => { results := [.lit (.bool true)], args := [d1, d2] }
  | _ => none }
def fnExactAnswerTextRow : OpenClaim := { program := "ytaanmomgjgoieaa", sum := "3311a56af0d594294b8f42b657743276348bfb3805a7963735357a1802d9bf87", func := "loop.example/g00130/laws.FnExactAnswerText", spec := "fnExactAnswerText", apart := false }
def FnExactAnswerTextSaid : Prop := fnExactAnswerTextRow.holds Try.pinned (OpenSpec.ofChange fnExactAnswerTextSpec)

/-- ITS FALSE NEIGHBOUR: 'it returns false'. Refute it at one input. -/
def fnExactAnswerTextWrong : ChangeSpec := { name := "fnExactAnswerText", fn := fun _ => fun
  | [d1, d2] => { results := [.lit (.bool false)], args := [d1, d2] }
  | _ => none }
def FnExactAnswerTextWrongFalsely : Prop := fnExactAnswerTextRow.holds Try.pinned (OpenSpec.ofChange fnExactAnswerTextWrong)

/- THE SECOND FORM. 'bulk': how many values and letters a reading holds, each counted each time it is reached (what is shared counts as often as it is met; a slice's spare places count too). A statement '..UptoSaid' is the law's where the arguments, and the package variables that the reading takes, are together of bulk at most 1048576: NARROWER than '..Said'. Prove '..Said' where nothing that the law and all that it calls make is longer than what came in: it says more and counts as full. Else prove '..UptoSaid'. A law counts once. -/
mutual
def uptoBulk {H : Type} : DataW H → Nat
  | .lit (.string bytes) => bytes.length + 1
  | .lit _ => 1
  | .nil => 1
  | .ptr d => uptoBulk d + 1
  | .slice elems spare => uptoBulkAll elems + uptoBulkAll spare + 1
  | .agg parts => uptoBulkAll parts + 1
  | .iface _ d => uptoBulk d + 1
  | .map entries => uptoBulkEntries entries + 1
  | .held _ => 1
def uptoBulkAll {H : Type} : List (DataW H) → Nat
  | [] => 0
  | d :: r => uptoBulk d + uptoBulkAll r
def uptoBulkEntries {H : Type} : List (Lit × DataW H) → Nat
  | [] => 0
  | x :: r => uptoBulkEntry x + uptoBulkEntries r
def uptoBulkEntry {H : Type} : Lit × DataW H → Nat
  | (.string bytes, d) => bytes.length + uptoBulk d + 1
  | (_, d) => uptoBulk d + 1
 end
def uptoSmall : (H : Type) → List (DataW H) → Bool := fun _ ds => decide (uptoBulkAll ds ≤ 1048576)
def OpenSpec.upto (s : _root_.Go.ChangeSpec) : _root_.Go.OpenSpec := { _root_.Go.OpenSpec.ofChange s with cond := some uptoSmall }

/-- 'laws.FnExactEventOk', WHERE WHAT IT READS IS OF BULK AT MOST 1048576: true; the input reads as it did. -/
def fnExactEventOkUptoRow : OpenClaim := { program := "ytaanmomgjgoieaa", sum := "3311a56af0d594294b8f42b657743276348bfb3805a7963735357a1802d9bf87", func := "loop.example/g00130/laws.FnExactEventOk", spec := "fnExactEventOk", apart := false, narrowed := true }
def FnExactEventOkUptoSaid : Prop := fnExactEventOkUptoRow.holds Try.pinned (OpenSpec.upto fnExactEventOkSpec)

/-- 'laws.FnInside', WHERE WHAT IT READS IS OF BULK AT MOST 1048576: true; the input reads as it did. -/
def fnInsideUptoRow : OpenClaim := { program := "ytaanmomgjgoieaa", sum := "3311a56af0d594294b8f42b657743276348bfb3805a7963735357a1802d9bf87", func := "loop.example/g00130/laws.FnInside", spec := "fnInside", apart := false, narrowed := true }
def FnInsideUptoSaid : Prop := fnInsideUptoRow.holds Try.pinned (OpenSpec.upto fnInsideSpec)

/-- 'laws.FnExactInside', WHERE WHAT IT READS IS OF BULK AT MOST 1048576: true; the input reads as it did. -/
def fnExactInsideUptoRow : OpenClaim := { program := "ytaanmomgjgoieaa", sum := "3311a56af0d594294b8f42b657743276348bfb3805a7963735357a1802d9bf87", func := "loop.example/g00130/laws.FnExactInside", spec := "fnExactInside", apart := false, narrowed := true }
def FnExactInsideUptoSaid : Prop := fnExactInsideUptoRow.holds Try.pinned (OpenSpec.upto fnExactInsideSpec)

/-- 'laws.FnGraphs', WHERE WHAT IT READS IS OF BULK AT MOST 1048576: true; the input reads as it did. -/
def fnGraphsUptoRow : OpenClaim := { program := "ytaanmomgjgoieaa", sum := "3311a56af0d594294b8f42b657743276348bfb3805a7963735357a1802d9bf87", func := "loop.example/g00130/laws.FnGraphs", spec := "fnGraphs", apart := false, narrowed := true }
def FnGraphsUptoSaid : Prop := fnGraphsUptoRow.holds Try.pinned (OpenSpec.upto fnGraphsSpec)

/-- 'laws.FnExactInTime', WHERE WHAT IT READS IS OF BULK AT MOST 1048576: true; the input reads as it did. -/
def fnExactInTimeUptoRow : OpenClaim := { program := "ytaanmomgjgoieaa", sum := "3311a56af0d594294b8f42b657743276348bfb3805a7963735357a1802d9bf87", func := "loop.example/g00130/laws.FnExactInTime", spec := "fnExactInTime", apart := false, narrowed := true }
def FnExactInTimeUptoSaid : Prop := fnExactInTimeUptoRow.holds Try.pinned (OpenSpec.upto fnExactInTimeSpec)

/-- 'laws.FnExactWholeEdges', WHERE WHAT IT READS IS OF BULK AT MOST 1048576: true; the input reads as it did. -/
def fnExactWholeEdgesUptoRow : OpenClaim := { program := "ytaanmomgjgoieaa", sum := "3311a56af0d594294b8f42b657743276348bfb3805a7963735357a1802d9bf87", func := "loop.example/g00130/laws.FnExactWholeEdges", spec := "fnExactWholeEdges", apart := false, narrowed := true }
def FnExactWholeEdgesUptoSaid : Prop := fnExactWholeEdgesUptoRow.holds Try.pinned (OpenSpec.upto fnExactWholeEdgesSpec)

/-- 'laws.FnExactOrderText', WHERE WHAT IT READS IS OF BULK AT MOST 1048576: true; the input reads as it did. -/
def fnExactOrderTextUptoRow : OpenClaim := { program := "ytaanmomgjgoieaa", sum := "3311a56af0d594294b8f42b657743276348bfb3805a7963735357a1802d9bf87", func := "loop.example/g00130/laws.FnExactOrderText", spec := "fnExactOrderText", apart := false, narrowed := true }
def FnExactOrderTextUptoSaid : Prop := fnExactOrderTextUptoRow.holds Try.pinned (OpenSpec.upto fnExactOrderTextSpec)

/-- 'laws.FnSplits', WHERE WHAT IT READS IS OF BULK AT MOST 1048576: true; the input reads as it did. -/
def fnSplitsUptoRow : OpenClaim := { program := "ytaanmomgjgoieaa", sum := "3311a56af0d594294b8f42b657743276348bfb3805a7963735357a1802d9bf87", func := "loop.example/g00130/laws.FnSplits", spec := "fnSplits", recurses := true, apart := false, narrowed := true }
def FnSplitsUptoSaid : Prop := fnSplitsUptoRow.holds Try.pinned (OpenSpec.upto fnSplitsSpec)

/-- 'laws.FnTours', WHERE WHAT IT READS IS OF BULK AT MOST 1048576: true; the input reads as it did. -/
def fnToursUptoRow : OpenClaim := { program := "ytaanmomgjgoieaa", sum := "3311a56af0d594294b8f42b657743276348bfb3805a7963735357a1802d9bf87", func := "loop.example/g00130/laws.FnTours", spec := "fnTours", recurses := true, apart := false, narrowed := true }
def FnToursUptoSaid : Prop := fnToursUptoRow.holds Try.pinned (OpenSpec.upto fnToursSpec)

/-- 'laws.FnLabels', WHERE WHAT IT READS IS OF BULK AT MOST 1048576: true; the input reads as it did. -/
def fnLabelsUptoRow : OpenClaim := { program := "ytaanmomgjgoieaa", sum := "3311a56af0d594294b8f42b657743276348bfb3805a7963735357a1802d9bf87", func := "loop.example/g00130/laws.FnLabels", spec := "fnLabels", apart := false, narrowed := true }
def FnLabelsUptoSaid : Prop := fnLabelsUptoRow.holds Try.pinned (OpenSpec.upto fnLabelsSpec)

/-- 'laws.FnTourOf', WHERE WHAT IT READS IS OF BULK AT MOST 1048576: true; the input reads as it did. -/
def fnTourOfUptoRow : OpenClaim := { program := "ytaanmomgjgoieaa", sum := "3311a56af0d594294b8f42b657743276348bfb3805a7963735357a1802d9bf87", func := "loop.example/g00130/laws.FnTourOf", spec := "fnTourOf", recurses := true, apart := false, narrowed := true }
def FnTourOfUptoSaid : Prop := fnTourOfUptoRow.holds Try.pinned (OpenSpec.upto fnTourOfSpec)

/-- 'laws.FnExactAnswerText', WHERE WHAT IT READS IS OF BULK AT MOST 1048576: true; the input reads as it did. -/
def fnExactAnswerTextUptoRow : OpenClaim := { program := "ytaanmomgjgoieaa", sum := "3311a56af0d594294b8f42b657743276348bfb3805a7963735357a1802d9bf87", func := "loop.example/g00130/laws.FnExactAnswerText", spec := "fnExactAnswerText", apart := false, narrowed := true }
def FnExactAnswerTextUptoSaid : Prop := fnExactAnswerTextUptoRow.holds Try.pinned (OpenSpec.upto fnExactAnswerTextSpec)

end Rows
end Go.Proofs.Ytaanmomgjgoieaa
