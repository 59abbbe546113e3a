/-
  No cell of these rows narrows 'for every input' (looked for: loops, veiled, ifaces, maps, wideKeys, modest, calm, conditions, laid).
  DERIVED. THE GIVEN ROWS OF THIS SEAT. 14 by the template 'for every input the law returns true; each argument reads behind the call as it read before'; 0 by the template 'total and deterministic' (their statements: YtojipknoidbbgaaTotals.lean).
  GIVEN WITH THE SEED: the statements are not yours to turn. If you find one false, say at which input.
  Laid BY PROGRAM, IN A SANDBOX (cutbox-rows.mjs): the forced cells as the released guide's own fill.sh prints them over the translation 8a521b5946884e36… (all of the seat's roots in one cut). By AI agents, Wed Nov 11 2026. No macro, syntax, notation, axiom, sorry.
-/
import Derived.Test.YtojipknoidbbgaaChecked
import GoSem.Claim
import GoSem.ClaimJoined
import GoSem.ClaimMapViews
import Derived.JoinedTies
import Derived.KernelRfl
namespace Go.Proofs.Ytojipknoidbbgaa
/- THE CELL 'sum', in the pinned program and in every row, IS THE sha256 OF THE DUMP (.gsa) THAT YtojipknoidbbgaaProg.lean LOADS. Nothing in Lean hashes anything: it is a label: what it is worth is what the hold of that sum in a sandbox is worth. -/
noncomputable def Try.pinned : Pinned := { name := "ytojipknoidbbgaa", sum := "8a521b5946884e363893a26cacacd868c9812cffb3dfd5cb126711a54ce84b0a", checked := Try.checked }
namespace Rows
def none {H : Type} : Left H := { results := [], args := [] }

/-- 'laws.FnInside': WHATEVER THE INPUT: true; the input reads as it did. -/
def fnInsideSpec : ChangeSpec := { name := "fnInside", fn := fun _ => fun
  | [d] => { results := [.lit (.bool true)], args := [d] }
  | _ => none }
def fnInsideRow : OpenClaim := { program := "ytojipknoidbbgaa", sum := "8a521b5946884e363893a26cacacd868c9812cffb3dfd5cb126711a54ce84b0a", func := "loop.example/g00130/laws.FnInside", spec := "fnInside", apart := false }
def FnInsideSaid : Prop := fnInsideRow.holds Try.pinned (OpenSpec.ofChange fnInsideSpec)

/-- ITS FALSE NEIGHBOUR: 'it returns false'. Refute it at one input. -/
def fnInsideWrong : ChangeSpec := { name := "fnInside", fn := fun _ => fun
  | [d] => { results := [.lit (.bool false)], args := [d] }
  | _ => none }
def FnInsideWrongFalsely : Prop := fnInsideRow.holds Try.pinned (OpenSpec.ofChange fnInsideWrong)

/-- 'laws.FnSplits': WHATEVER THE INPUT: true; the input reads as it did. -/
def fnSplitsSpec : ChangeSpec := { name := "fnSplits", fn := fun _ => fun
  | [d] => { results := [.lit (.bool true)], args := [d] }
  | _ => none }
def fnSplitsRow : OpenClaim := { program := "ytojipknoidbbgaa", sum := "8a521b5946884e363893a26cacacd868c9812cffb3dfd5cb126711a54ce84b0a", func := "loop.example/g00130/laws.FnSplits", spec := "fnSplits", recurses := true, apart := false }
def FnSplitsSaid : Prop := fnSplitsRow.holds Try.pinned (OpenSpec.ofChange fnSplitsSpec)

/-- ITS FALSE NEIGHBOUR: 'it returns false'. Refute it at one input. -/
def fnSplitsWrong : ChangeSpec := { name := "fnSplits", fn := fun _ => fun
  | [d] => { results := [.lit (.bool false)], args := [d] }
  | _ => none }
def FnSplitsWrongFalsely : Prop := fnSplitsRow.holds Try.pinned (OpenSpec.ofChange fnSplitsWrong)

/-- 'laws.FnTours': WHATEVER THE INPUT: true; the input reads as it did. -/
def fnToursSpec : ChangeSpec := { name := "fnTours", fn := fun _ => fun
  | [d] => { results := [.lit (.bool true)], args := [d] }
  | _ => none }
def fnToursRow : OpenClaim := { program := "ytojipknoidbbgaa", sum := "8a521b5946884e363893a26cacacd868c9812cffb3dfd5cb126711a54ce84b0a", func := "loop.example/g00130/laws.FnTours", spec := "fnTours", recurses := true, apart := false }
def FnToursSaid : Prop := fnToursRow.holds Try.pinned (OpenSpec.ofChange fnToursSpec)

/-- ITS FALSE NEIGHBOUR: 'it returns false'. Refute it at one input. -/
def fnToursWrong : ChangeSpec := { name := "fnTours", fn := fun _ => fun
  | [d] => { results := [.lit (.bool false)], args := [d] }
  | _ => none }
def FnToursWrongFalsely : Prop := fnToursRow.holds Try.pinned (OpenSpec.ofChange fnToursWrong)

/-- 'laws.FnLabels': WHATEVER THE INPUT: true; the input reads as it did. -/
def fnLabelsSpec : ChangeSpec := { name := "fnLabels", fn := fun _ => fun
  | [d] => { results := [.lit (.bool true)], args := [d] }
  | _ => none }
def fnLabelsRow : OpenClaim := { program := "ytojipknoidbbgaa", sum := "8a521b5946884e363893a26cacacd868c9812cffb3dfd5cb126711a54ce84b0a", func := "loop.example/g00130/laws.FnLabels", spec := "fnLabels", apart := false }
def FnLabelsSaid : Prop := fnLabelsRow.holds Try.pinned (OpenSpec.ofChange fnLabelsSpec)

/-- ITS FALSE NEIGHBOUR: 'it returns false'. Refute it at one input. -/
def fnLabelsWrong : ChangeSpec := { name := "fnLabels", fn := fun _ => fun
  | [d] => { results := [.lit (.bool false)], args := [d] }
  | _ => none }
def FnLabelsWrongFalsely : Prop := fnLabelsRow.holds Try.pinned (OpenSpec.ofChange fnLabelsWrong)

/-- 'laws.FnTourOf': WHATEVER THE INPUT: true; the input reads as it did. -/
def fnTourOfSpec : ChangeSpec := { name := "fnTourOf", fn := fun _ => fun
  | [d] => { results := [.lit (.bool true)], args := [d] }
  | _ => none }
def fnTourOfRow : OpenClaim := { program := "ytojipknoidbbgaa", sum := "8a521b5946884e363893a26cacacd868c9812cffb3dfd5cb126711a54ce84b0a", func := "loop.example/g00130/laws.FnTourOf", spec := "fnTourOf", recurses := true, apart := false }
def FnTourOfSaid : Prop := fnTourOfRow.holds Try.pinned (OpenSpec.ofChange fnTourOfSpec)

/-- ITS FALSE NEIGHBOUR: 'it returns false'. Refute it at one input. -/
def fnTourOfWrong : ChangeSpec := { name := "fnTourOf", fn := fun _ => fun
  | [d] => { results := [.lit (.bool false)], args := [d] }
  | _ => none }
def FnTourOfWrongFalsely : Prop := fnTourOfRow.holds Try.pinned (OpenSpec.ofChange fnTourOfWrong)

/-- 'laws.FnWholes': WHATEVER THE INPUT: true; the input reads as it did. -/
def fnWholesSpec : ChangeSpec := { name := "fnWholes", fn := fun _ => fun
  | [d] => { results := [.lit (.bool true)], args := [d] }
  | _ => none }
def fnWholesRow : OpenClaim := { program := "ytojipknoidbbgaa", sum := "8a521b5946884e363893a26cacacd868c9812cffb3dfd5cb126711a54ce84b0a", func := "loop.example/g00130/laws.FnWholes", spec := "fnWholes", apart := false }
def FnWholesSaid : Prop := fnWholesRow.holds Try.pinned (OpenSpec.ofChange fnWholesSpec)

/-- ITS FALSE NEIGHBOUR: 'it returns false'. Refute it at one input. -/
def fnWholesWrong : ChangeSpec := { name := "fnWholes", fn := fun _ => fun
  | [d] => { results := [.lit (.bool false)], args := [d] }
  | _ => none }
def FnWholesWrongFalsely : Prop := fnWholesRow.holds Try.pinned (OpenSpec.ofChange fnWholesWrong)

/-- 'laws.FnHeadNew': WHATEVER THE INPUT: true; the input reads as it did. -/
def fnHeadNewSpec : ChangeSpec := { name := "fnHeadNew", fn := fun _ => fun
  | [d] => { results := [.lit (.bool true)], args := [d] }
  | _ => none }
def fnHeadNewRow : OpenClaim := { program := "ytojipknoidbbgaa", sum := "8a521b5946884e363893a26cacacd868c9812cffb3dfd5cb126711a54ce84b0a", func := "loop.example/g00130/laws.FnHeadNew", spec := "fnHeadNew", apart := false }
def FnHeadNewSaid : Prop := fnHeadNewRow.holds Try.pinned (OpenSpec.ofChange fnHeadNewSpec)

/-- ITS FALSE NEIGHBOUR: 'it returns false'. Refute it at one input. -/
def fnHeadNewWrong : ChangeSpec := { name := "fnHeadNew", fn := fun _ => fun
  | [d] => { results := [.lit (.bool false)], args := [d] }
  | _ => none }
def FnHeadNewWrongFalsely : Prop := fnHeadNewRow.holds Try.pinned (OpenSpec.ofChange fnHeadNewWrong)

/-- 'laws.FnExactShardOk': WHATEVER THE INPUT: true; the input reads as it did. -/
def fnExactShardOkSpec : ChangeSpec := { name := "fnExactShardOk", fn := fun _ => fun
  | [d] => { results := [.lit (.bool true)], args := [d] }
  | _ => none }
def fnExactShardOkRow : OpenClaim := { program := "ytojipknoidbbgaa", sum := "8a521b5946884e363893a26cacacd868c9812cffb3dfd5cb126711a54ce84b0a", func := "loop.example/g00130/laws.FnExactShardOk", spec := "fnExactShardOk", recurses := true, apart := false }
def FnExactShardOkSaid : Prop := fnExactShardOkRow.holds Try.pinned (OpenSpec.ofChange fnExactShardOkSpec)

/-- ITS FALSE NEIGHBOUR: 'it returns false'. Refute it at one input. -/
def fnExactShardOkWrong : ChangeSpec := { name := "fnExactShardOk", fn := fun _ => fun
  | [d] => { results := [.lit (.bool false)], args := [d] }
  | _ => none }
def FnExactShardOkWrongFalsely : Prop := fnExactShardOkRow.holds Try.pinned (OpenSpec.ofChange fnExactShardOkWrong)

/-- 'laws.FnExactReadRecs': WHATEVER THE INPUT: true; the input reads as it did. -/
def fnExactReadRecsSpec : ChangeSpec := { name := "fnExactReadRecs", fn := fun _ => fun
  | [d1, d2] => { results := [.lit (.bool true)], args := [d1, d2] }
  | _ => none }
def fnExactReadRecsRow : OpenClaim := { program := "ytojipknoidbbgaa", sum := "8a521b5946884e363893a26cacacd868c9812cffb3dfd5cb126711a54ce84b0a", func := "loop.example/g00130/laws.FnExactReadRecs", spec := "fnExactReadRecs", apart := false }
def FnExactReadRecsSaid : Prop := fnExactReadRecsRow.holds Try.pinned (OpenSpec.ofChange fnExactReadRecsSpec)

/-- ITS FALSE NEIGHBOUR: 'it returns false'. Refute it at one input. -/
def fnExactReadRecsWrong : ChangeSpec := { name := "fnExactReadRecs", fn := fun _ => fun
  | [d1, d2] => { results := [.lit (.bool false)], args := [d1, d2] }
  | _ => none }
def FnExactReadRecsWrongFalsely : Prop := fnExactReadRecsRow.holds Try.pinned (OpenSpec.ofChange fnExactReadRecsWrong)

/-- 'laws.FnExactMendActs': WHATEVER THE INPUT: true; the input reads as it did. -/
def fnExactMendActsSpec : ChangeSpec := { name := "fnExactMendActs", fn := fun _ => fun
  | [d1, d2] => { results := [.lit (.bool true)], args := [d1, d2] }
  | _ => none }
def fnExactMendActsRow : OpenClaim := { program := "ytojipknoidbbgaa", sum := "8a521b5946884e363893a26cacacd868c9812cffb3dfd5cb126711a54ce84b0a", func := "loop.example/g00130/laws.FnExactMendActs", spec := "fnExactMendActs", apart := false }
def FnExactMendActsSaid : Prop := fnExactMendActsRow.holds Try.pinned (OpenSpec.ofChange fnExactMendActsSpec)

/-- ITS FALSE NEIGHBOUR: 'it returns false'. Refute it at one input. -/
def fnExactMendActsWrong : ChangeSpec := { name := "fnExactMendActs", fn := fun _ => fun
  | [d1, d2] => { results := [.lit (.bool false)], args := [d1, d2] }
  | _ => none }
def FnExactMendActsWrongFalsely : Prop := fnExactMendActsRow.holds Try.pinned (OpenSpec.ofChange fnExactMendActsWrong)

/-- 'laws.FnExactHear': WHATEVER THE INPUT: true; the input reads as it did. -/
def fnExactHearSpec : ChangeSpec := { name := "fnExactHear", fn := fun _ => fun
  | [d1, d2, d3] => { results := [.lit (.bool true)], args := [d1, d2, d3] }
  | _ => none }
def fnExactHearRow : OpenClaim := { program := "ytojipknoidbbgaa", sum := "8a521b5946884e363893a26cacacd868c9812cffb3dfd5cb126711a54ce84b0a", func := "loop.example/g00130/laws.FnExactHear", spec := "fnExactHear", apart := false }
def FnExactHearSaid : Prop := fnExactHearRow.holds Try.pinned (OpenSpec.ofChange fnExactHearSpec)

/-- ITS FALSE NEIGHBOUR: 'it returns false'. Refute it at one input. -/
def fnExactHearWrong : ChangeSpec := { name := "fnExactHear", fn := fun _ => fun
  | [d1, d2, d3] => { results := [.lit (.bool false)], args := [d1, d2, d3] }
  | _ => none }
def FnExactHearWrongFalsely : Prop := fnExactHearRow.holds Try.pinned (OpenSpec.ofChange fnExactHearWrong)

/-- 'laws.FnExactTake': WHATEVER THE INPUT: true; the input reads as it did. -/
def fnExactTakeSpec : ChangeSpec := { name := "fnExactTake", fn := fun _ => fun
  | [d1, d2] => { results := [.lit (.bool true)], args := [d1, d2] }
  | _ => none }
def fnExactTakeRow : OpenClaim := { program := "ytojipknoidbbgaa", sum := "8a521b5946884e363893a26cacacd868c9812cffb3dfd5cb126711a54ce84b0a", func := "loop.example/g00130/laws.FnExactTake", spec := "fnExactTake", apart := false }
def FnExactTakeSaid : Prop := fnExactTakeRow.holds Try.pinned (OpenSpec.ofChange fnExactTakeSpec)

/-- ITS FALSE NEIGHBOUR: 'it returns false'. Refute it at one input. -/
def fnExactTakeWrong : ChangeSpec := { name := "fnExactTake", fn := fun _ => fun
  | [d1, d2] => { results := [.lit (.bool false)], args := [d1, d2] }
  | _ => none }
def FnExactTakeWrongFalsely : Prop := fnExactTakeRow.holds Try.pinned (OpenSpec.ofChange fnExactTakeWrong)

/-- 'laws.FnExactOnce': WHATEVER THE INPUT: true; the input reads as it did. -/
def fnExactOnceSpec : ChangeSpec := { name := "fnExactOnce", fn := fun _ => fun
  | [d] => { results := [.lit (.bool true)], args := [d] }
  | _ => none }
def fnExactOnceRow : OpenClaim := { program := "ytojipknoidbbgaa", sum := "8a521b5946884e363893a26cacacd868c9812cffb3dfd5cb126711a54ce84b0a", func := "loop.example/g00130/laws.FnExactOnce", spec := "fnExactOnce", apart := false }
def FnExactOnceSaid : Prop := fnExactOnceRow.holds Try.pinned (OpenSpec.ofChange fnExactOnceSpec)

/-- ITS FALSE NEIGHBOUR: 'it returns false'. Refute it at one input. -/
def fnExactOnceWrong : ChangeSpec := { name := "fnExactOnce", fn := fun _ => fun
  | [d] => { results := [.lit (.bool false)], args := [d] }
  | _ => none }
def FnExactOnceWrongFalsely : Prop := fnExactOnceRow.holds Try.pinned (OpenSpec.ofChange fnExactOnceWrong)

/-- 'laws.FnExactWorldNew': WHATEVER THE INPUT: true; the input reads as it did. -/
def fnExactWorldNewSpec : ChangeSpec := { name := "fnExactWorldNew", fn := fun _ => fun
  | [d1, d2] => { results := [.lit (.bool true)], args := [d1, d2] }
  | _ => none }
def fnExactWorldNewRow : OpenClaim := { program := "ytojipknoidbbgaa", sum := "8a521b5946884e363893a26cacacd868c9812cffb3dfd5cb126711a54ce84b0a", func := "loop.example/g00130/laws.FnExactWorldNew", spec := "fnExactWorldNew", apart := false }
def FnExactWorldNewSaid : Prop := fnExactWorldNewRow.holds Try.pinned (OpenSpec.ofChange fnExactWorldNewSpec)

/-- ITS FALSE NEIGHBOUR: 'it returns false'. Refute it at one input. -/
def fnExactWorldNewWrong : ChangeSpec := { name := "fnExactWorldNew", fn := fun _ => fun
  | [d1, d2] => { results := [.lit (.bool false)], args := [d1, d2] }
  | _ => none }
def FnExactWorldNewWrongFalsely : Prop := fnExactWorldNewRow.holds Try.pinned (OpenSpec.ofChange fnExactWorldNewWrong)

/- THE SECOND FORM. 'bulk': how many values and letters a reading holds, each counted each time it is reached (what is shared counts as often as it is met; a slice's spare places count too). A statement '..UptoSaid' is the law's where the arguments, and the package variables that the reading takes, are together of bulk at most 1048576: NARROWER than '..Said'. Prove '..Said' where nothing that the law and all that it calls make is longer than what came in: it says more and counts as full. Else prove '..UptoSaid'. A law counts once. -/
mutual
def uptoBulk {H : Type} : DataW H → Nat
  | .lit (.string bytes) => bytes.length + 1
  | .lit _ => 1
  | .nil => 1
  | .ptr d => uptoBulk d + 1
  | .slice elems spare => uptoBulkAll elems + uptoBulkAll spare + 1
  | .agg parts => uptoBulkAll parts + 1
  | .iface _ d => uptoBulk d + 1
  | .map entries => uptoBulkEntries entries + 1
  | .held _ => 1
def uptoBulkAll {H : Type} : List (DataW H) → Nat
  | [] => 0
  | d :: r => uptoBulk d + uptoBulkAll r
def uptoBulkEntries {H : Type} : List (Lit × DataW H) → Nat
  | [] => 0
  | x :: r => uptoBulkEntry x + uptoBulkEntries r
def uptoBulkEntry {H : Type} : Lit × DataW H → Nat
  | (.string bytes, d) => bytes.length + uptoBulk d + 1
  | (_, d) => uptoBulk d + 1
 end
def uptoSmall : (H : Type) → List (DataW H) → Bool := fun _ ds => decide (uptoBulkAll ds ≤ 1048576)
def OpenSpec.upto (s : _root_.Go.ChangeSpec) : _root_.Go.OpenSpec := { _root_.Go.OpenSpec.ofChange s with cond := some uptoSmall }

/-- 'laws.FnInside', WHERE WHAT IT READS IS OF BULK AT MOST 1048576: true; the input reads as it did. -/
def fnInsideUptoRow : OpenClaim := { program := "ytojipknoidbbgaa", sum := "8a521b5946884e363893a26cacacd868c9812cffb3dfd5cb126711a54ce84b0a", func := "loop.example/g00130/laws.FnInside", spec := "fnInside", apart := false, narrowed := true }
def FnInsideUptoSaid : Prop := fnInsideUptoRow.holds Try.pinned (OpenSpec.upto fnInsideSpec)

/-- 'laws.FnSplits', WHERE WHAT IT READS IS OF BULK AT MOST 1048576: true; the input reads as it did. -/
def fnSplitsUptoRow : OpenClaim := { program := "ytojipknoidbbgaa", sum := "8a521b5946884e363893a26cacacd868c9812cffb3dfd5cb126711a54ce84b0a", func := "loop.example/g00130/laws.FnSplits", spec := "fnSplits", recurses := true, apart := false, narrowed := true }
def FnSplitsUptoSaid : Prop := fnSplitsUptoRow.holds Try.pinned (OpenSpec.upto fnSplitsSpec)

/-- 'laws.FnTours', WHERE WHAT IT READS IS OF BULK AT MOST 1048576: true; the input reads as it did. -/
def fnToursUptoRow : OpenClaim := { program := "ytojipknoidbbgaa", sum := "8a521b5946884e363893a26cacacd868c9812cffb3dfd5cb126711a54ce84b0a", func := "loop.example/g00130/laws.FnTours", spec := "fnTours", recurses := true, apart := false, narrowed := true }
def FnToursUptoSaid : Prop := fnToursUptoRow.holds Try.pinned (OpenSpec.upto fnToursSpec)

/-- 'laws.FnLabels', WHERE WHAT IT READS IS OF BULK AT MOST 1048576: true; the input reads as it did. -/
def fnLabelsUptoRow : OpenClaim := { program := "ytojipknoidbbgaa", sum := "8a521b5946884e363893a26cacacd868c9812cffb3dfd5cb126711a54ce84b0a", func := "loop.example/g00130/laws.FnLabels", spec := "fnLabels", apart := false, narrowed := true }
def FnLabelsUptoSaid : Prop := fnLabelsUptoRow.holds Try.pinned (OpenSpec.upto fnLabelsSpec)

/-- 'laws.FnTourOf', WHERE WHAT IT READS IS OF BULK AT MOST 1048576: true; the input reads as it did. -/
def fnTourOfUptoRow : OpenClaim := { program := "ytojipknoidbbgaa", sum := "8a521b5946884e363893a26cacacd868c9812cffb3dfd5cb126711a54ce84b0a", func := "loop.example/g00130/laws.FnTourOf", spec := "fnTourOf", recurses := true, apart := false, narrowed := true }
def FnTourOfUptoSaid : Prop := fnTourOfUptoRow.holds Try.pinned (OpenSpec.upto fnTourOfSpec)

/-- 'laws.FnWholes', WHERE WHAT IT READS IS OF BULK AT MOST 1048576: true; the input reads as it did. -/
def fnWholesUptoRow : OpenClaim := { program := "ytojipknoidbbgaa", sum := "8a521b5946884e363893a26cacacd868c9812cffb3dfd5cb126711a54ce84b0a", func := "loop.example/g00130/laws.FnWholes", spec := "fnWholes", apart := false, narrowed := true }
def FnWholesUptoSaid : Prop := fnWholesUptoRow.holds Try.pinned (OpenSpec.upto fnWholesSpec)

/-- 'laws.FnHeadNew', WHERE WHAT IT READS IS OF BULK AT MOST 1048576: true; the input reads as it did. -/
def fnHeadNewUptoRow : OpenClaim := { program := "ytojipknoidbbgaa", sum := "8a521b5946884e363893a26cacacd868c9812cffb3dfd5cb126711a54ce84b0a", func := "loop.example/g00130/laws.FnHeadNew", spec := "fnHeadNew", apart := false, narrowed := true }
def FnHeadNewUptoSaid : Prop := fnHeadNewUptoRow.holds Try.pinned (OpenSpec.upto fnHeadNewSpec)

/-- 'laws.FnExactShardOk', WHERE WHAT IT READS IS OF BULK AT MOST 1048576: true; the input reads as it did. -/
def fnExactShardOkUptoRow : OpenClaim := { program := "ytojipknoidbbgaa", sum := "8a521b5946884e363893a26cacacd868c9812cffb3dfd5cb126711a54ce84b0a", func := "loop.example/g00130/laws.FnExactShardOk", spec := "fnExactShardOk", recurses := true, apart := false, narrowed := true }
def FnExactShardOkUptoSaid : Prop := fnExactShardOkUptoRow.holds Try.pinned (OpenSpec.upto fnExactShardOkSpec)

/-- 'laws.FnExactReadRecs', WHERE WHAT IT READS IS OF BULK AT MOST 1048576: true; the input reads as it did. -/
def fnExactReadRecsUptoRow : OpenClaim := { program := "ytojipknoidbbgaa", sum := "8a521b5946884e363893a26cacacd868c9812cffb3dfd5cb126711a54ce84b0a", func := "loop.example/g00130/laws.FnExactReadRecs", spec := "fnExactReadRecs", apart := false, narrowed := true }
def FnExactReadRecsUptoSaid : Prop := fnExactReadRecsUptoRow.holds Try.pinned (OpenSpec.upto fnExactReadRecsSpec)

/-- 'laws.FnExactMendActs', WHERE WHAT IT READS IS OF BULK AT MOST 1048576: true; the input reads as it did. -/
def fnExactMendActsUptoRow : OpenClaim := { program := "ytojipknoidbbgaa", sum := "8a521b5946884e363893a26cacacd868c9812cffb3dfd5cb126711a54ce84b0a", func := "loop.example/g00130/laws.FnExactMendActs", spec := "fnExactMendActs", apart := false, narrowed := true }
def FnExactMendActsUptoSaid : Prop := fnExactMendActsUptoRow.holds Try.pinned (OpenSpec.upto fnExactMendActsSpec)

/-- 'laws.FnExactHear', WHERE WHAT IT READS IS OF BULK AT MOST 1048576: true; the input reads as it did. -/
def fnExactHearUptoRow : OpenClaim := { program := "ytojipknoidbbgaa", sum := "8a521b5946884e363893a26cacacd868c9812cffb3dfd5cb126711a54ce84b0a", func := "loop.example/g00130/laws.FnExactHear", spec := "fnExactHear", apart := false, narrowed := true }
def FnExactHearUptoSaid : Prop := fnExactHearUptoRow.holds Try.pinned (OpenSpec.upto fnExactHearSpec)

/-- 'laws.FnExactTake', WHERE WHAT IT READS IS OF BULK AT MOST 1048576: true; the input reads as it did. -/
def fnExactTakeUptoRow : OpenClaim := { program := "ytojipknoidbbgaa", sum := "8a521b5946884e363893a26cacacd868c9812cffb3dfd5cb126711a54ce84b0a", func := "loop.example/g00130/laws.FnExactTake", spec := "fnExactTake", apart := false, narrowed := true }
def FnExactTakeUptoSaid : Prop := fnExactTakeUptoRow.holds Try.pinned (OpenSpec.upto fnExactTakeSpec)

/-- 'laws.FnExactOnce', WHERE WHAT IT READS IS OF BULK AT MOST 1048576: true; the input reads as it did. -/
def fnExactOnceUptoRow : OpenClaim := { program := "ytojipknoidbbgaa", sum := "8a521b5946884e363893a26cacacd868c9812cffb3dfd5cb126711a54ce84b0a", func := "loop.example/g00130/laws.FnExactOnce", spec := "fnExactOnce", apart := false, narrowed := true }
def FnExactOnceUptoSaid : Prop := fnExactOnceUptoRow.holds Try.pinned (OpenSpec.upto fnExactOnceSpec)

/-- 'laws.FnExactWorldNew', WHERE WHAT IT READS IS OF BULK AT MOST 1048576: true; the input reads as it did. -/
def fnExactWorldNewUptoRow : OpenClaim := { program := "ytojipknoidbbgaa", sum := "8a521b5946884e363893a26cacacd868c9812cffb3dfd5cb126711a54ce84b0a", func := "loop.example/g00130/laws.FnExactWorldNew", spec := "fnExactWorldNew", apart := false, narrowed := true }
def FnExactWorldNewUptoSaid : Prop := fnExactWorldNewUptoRow.holds Try.pinned (OpenSpec.upto fnExactWorldNewSpec)

end Rows
end Go.Proofs.Ytojipknoidbbgaa
