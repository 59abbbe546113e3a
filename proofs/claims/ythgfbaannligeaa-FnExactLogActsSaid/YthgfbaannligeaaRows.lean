/-
  No cell of these rows narrows 'for every input' (looked for: loops, veiled, ifaces, maps, wideKeys, modest, calm, conditions, laid).
  DERIVED. THE GIVEN ROWS OF THIS SEAT. 24 by the template 'for every input the law returns true; each argument reads behind the call as it read before'; 0 by the template 'total and deterministic' (their statements: YthgfbaannligeaaTotals.lean).
  GIVEN WITH THE SEED: the statements are not yours to turn. If you find one false, say at which input.
  Laid BY PROGRAM, IN A SANDBOX (cutbox-rows.mjs): the forced cells as the released guide's own fill.sh prints them over the translation 82550e31b175ecbe… (all of the seat's roots in one cut). By AI agents, Wed Nov 11 2026. No macro, syntax, notation, axiom, sorry.
-/
import Derived.Test.YthgfbaannligeaaChecked
import GoSem.Claim
import GoSem.ClaimJoined
import GoSem.ClaimMapViews
import Derived.JoinedTies
import Derived.KernelRfl
namespace Go.Proofs.Ythgfbaannligeaa
/- THE CELL 'sum', in the pinned program and in every row, IS THE sha256 OF THE DUMP (.gsa) THAT YthgfbaannligeaaProg.lean LOADS. Nothing in Lean hashes anything: it is a label: what it is worth is what the hold of that sum in a sandbox is worth. -/
noncomputable def Try.pinned : Pinned := { name := "ythgfbaannligeaa", sum := "82550e31b175ecbe44c8bc396ba6ad984b3a781813fdb39b5e147831097b972d", checked := Try.checked }
namespace Rows
def none {H : Type} : Left H := { results := [], args := [] }

/-- 'laws.FnShardNew': WHATEVER THE INPUT: true; the input reads as it did. -/
def fnShardNewSpec : ChangeSpec := { name := "fnShardNew", fn := fun _ => fun
  | [d] => { results := [.lit (.bool true)], args := [d] }
  | _ => none }
def fnShardNewRow : OpenClaim := { program := "ythgfbaannligeaa", sum := "82550e31b175ecbe44c8bc396ba6ad984b3a781813fdb39b5e147831097b972d", func := "loop.example/g00130/laws.FnShardNew", spec := "fnShardNew", apart := false }
def FnShardNewSaid : Prop := fnShardNewRow.holds Try.pinned (OpenSpec.ofChange fnShardNewSpec)

/-- ITS FALSE NEIGHBOUR: 'it returns false'. Refute it at one input. -/
def fnShardNewWrong : ChangeSpec := { name := "fnShardNew", fn := fun _ => fun
  | [d] => { results := [.lit (.bool false)], args := [d] }
  | _ => none }
def FnShardNewWrongFalsely : Prop := fnShardNewRow.holds Try.pinned (OpenSpec.ofChange fnShardNewWrong)

/-- 'laws.FnExactWholeLabels': WHATEVER THE INPUT: true; the input reads as it did. -/
def fnExactWholeLabelsSpec : ChangeSpec := { name := "fnExactWholeLabels", fn := fun _ => fun
  | [d1, d2, d3] => { results := [.lit (.bool true)], args := [d1, d2, d3] }
  | _ => none }
def fnExactWholeLabelsRow : OpenClaim := { program := "ythgfbaannligeaa", sum := "82550e31b175ecbe44c8bc396ba6ad984b3a781813fdb39b5e147831097b972d", func := "loop.example/g00130/laws.FnExactWholeLabels", spec := "fnExactWholeLabels", apart := false }
def FnExactWholeLabelsSaid : Prop := fnExactWholeLabelsRow.holds Try.pinned (OpenSpec.ofChange fnExactWholeLabelsSpec)

/-- ITS FALSE NEIGHBOUR: 'it returns false'. Refute it at one input. -/
def fnExactWholeLabelsWrong : ChangeSpec := { name := "fnExactWholeLabels", fn := fun _ => fun
  | [d1, d2, d3] => { results := [.lit (.bool false)], args := [d1, d2, d3] }
  | _ => none }
def FnExactWholeLabelsWrongFalsely : Prop := fnExactWholeLabelsRow.holds Try.pinned (OpenSpec.ofChange fnExactWholeLabelsWrong)

/-- 'laws.FnWholes': WHATEVER THE INPUT: true; the input reads as it did. -/
def fnWholesSpec : ChangeSpec := { name := "fnWholes", fn := fun _ => fun
  | [d] => { results := [.lit (.bool true)], args := [d] }
  | _ => none }
def fnWholesRow : OpenClaim := { program := "ythgfbaannligeaa", sum := "82550e31b175ecbe44c8bc396ba6ad984b3a781813fdb39b5e147831097b972d", func := "loop.example/g00130/laws.FnWholes", spec := "fnWholes", apart := false }
def FnWholesSaid : Prop := fnWholesRow.holds Try.pinned (OpenSpec.ofChange fnWholesSpec)

/-- ITS FALSE NEIGHBOUR: 'it returns false'. Refute it at one input. -/
def fnWholesWrong : ChangeSpec := { name := "fnWholes", fn := fun _ => fun
  | [d] => { results := [.lit (.bool false)], args := [d] }
  | _ => none }
def FnWholesWrongFalsely : Prop := fnWholesRow.holds Try.pinned (OpenSpec.ofChange fnWholesWrong)

/-- 'laws.FnExactShardNew': WHATEVER THE INPUT: true; the input reads as it did. -/
def fnExactShardNewSpec : ChangeSpec := { name := "fnExactShardNew", fn := fun _ => fun
  | [d1, d2] => { results := [.lit (.bool true)], args := [d1, d2] }
  | _ => none }
def fnExactShardNewRow : OpenClaim := { program := "ythgfbaannligeaa", sum := "82550e31b175ecbe44c8bc396ba6ad984b3a781813fdb39b5e147831097b972d", func := "loop.example/g00130/laws.FnExactShardNew", spec := "fnExactShardNew", apart := false }
def FnExactShardNewSaid : Prop := fnExactShardNewRow.holds Try.pinned (OpenSpec.ofChange fnExactShardNewSpec)

/-- ITS FALSE NEIGHBOUR: 'it returns false'. Refute it at one input. -/
def fnExactShardNewWrong : ChangeSpec := { name := "fnExactShardNew", fn := fun _ => fun
  | [d1, d2] => { results := [.lit (.bool false)], args := [d1, d2] }
  | _ => none }
def FnExactShardNewWrongFalsely : Prop := fnExactShardNewRow.holds Try.pinned (OpenSpec.ofChange fnExactShardNewWrong)

/-- 'laws.FnExactReadOrder': WHATEVER THE INPUT: true; the input reads as it did. -/
def fnExactReadOrderSpec : ChangeSpec := { name := "fnExactReadOrder", fn := fun _ => fun
  | [d1, d2] => { results := [.lit (.bool true)], args := [d1, d2] }
  | _ => none }
def fnExactReadOrderRow : OpenClaim := { program := "ythgfbaannligeaa", sum := "82550e31b175ecbe44c8bc396ba6ad984b3a781813fdb39b5e147831097b972d", func := "loop.example/g00130/laws.FnExactReadOrder", spec := "fnExactReadOrder", apart := false }
def FnExactReadOrderSaid : Prop := fnExactReadOrderRow.holds Try.pinned (OpenSpec.ofChange fnExactReadOrderSpec)

/-- ITS FALSE NEIGHBOUR: 'it returns false'. Refute it at one input. -/
def fnExactReadOrderWrong : ChangeSpec := { name := "fnExactReadOrder", fn := fun _ => fun
  | [d1, d2] => { results := [.lit (.bool false)], args := [d1, d2] }
  | _ => none }
def FnExactReadOrderWrongFalsely : Prop := fnExactReadOrderRow.holds Try.pinned (OpenSpec.ofChange fnExactReadOrderWrong)

/-- 'laws.FnExactOwned': WHATEVER THE INPUT: true; the input reads as it did. -/
def fnExactOwnedSpec : ChangeSpec := { name := "fnExactOwned", fn := fun _ => fun
  | [d] => { results := [.lit (.bool true)], args := [d] }
  | _ => none }
def fnExactOwnedRow : OpenClaim := { program := "ythgfbaannligeaa", sum := "82550e31b175ecbe44c8bc396ba6ad984b3a781813fdb39b5e147831097b972d", func := "loop.example/g00130/laws.FnExactOwned", spec := "fnExactOwned", apart := false }
def FnExactOwnedSaid : Prop := fnExactOwnedRow.holds Try.pinned (OpenSpec.ofChange fnExactOwnedSpec)

/-- ITS FALSE NEIGHBOUR: 'it returns false'. Refute it at one input. -/
def fnExactOwnedWrong : ChangeSpec := { name := "fnExactOwned", fn := fun _ => fun
  | [d] => { results := [.lit (.bool false)], args := [d] }
  | _ => none }
def FnExactOwnedWrongFalsely : Prop := fnExactOwnedRow.holds Try.pinned (OpenSpec.ofChange fnExactOwnedWrong)

/-- 'laws.FnExactBusy': WHATEVER THE INPUT: true; the input reads as it did. -/
def fnExactBusySpec : ChangeSpec := { name := "fnExactBusy", fn := fun _ => fun
  | [d] => { results := [.lit (.bool true)], args := [d] }
  | _ => none }
def fnExactBusyRow : OpenClaim := { program := "ythgfbaannligeaa", sum := "82550e31b175ecbe44c8bc396ba6ad984b3a781813fdb39b5e147831097b972d", func := "loop.example/g00130/laws.FnExactBusy", spec := "fnExactBusy", apart := false }
def FnExactBusySaid : Prop := fnExactBusyRow.holds Try.pinned (OpenSpec.ofChange fnExactBusySpec)

/-- ITS FALSE NEIGHBOUR: 'it returns false'. Refute it at one input. -/
def fnExactBusyWrong : ChangeSpec := { name := "fnExactBusy", fn := fun _ => fun
  | [d] => { results := [.lit (.bool false)], args := [d] }
  | _ => none }
def FnExactBusyWrongFalsely : Prop := fnExactBusyRow.holds Try.pinned (OpenSpec.ofChange fnExactBusyWrong)

/-- 'laws.FnExactReplyOf': WHATEVER THE INPUT: true; the input reads as it did. -/
def fnExactReplyOfSpec : ChangeSpec := { name := "fnExactReplyOf", fn := fun _ => fun
  | [d1, d2] => { results := [.lit (.bool true)], args := [d1, d2] }
  | _ => none }
def fnExactReplyOfRow : OpenClaim := { program := "ythgfbaannligeaa", sum := "82550e31b175ecbe44c8bc396ba6ad984b3a781813fdb39b5e147831097b972d", func := "loop.example/g00130/laws.FnExactReplyOf", spec := "fnExactReplyOf", apart := false }
def FnExactReplyOfSaid : Prop := fnExactReplyOfRow.holds Try.pinned (OpenSpec.ofChange fnExactReplyOfSpec)

/-- ITS FALSE NEIGHBOUR: 'it returns false'. Refute it at one input. -/
def fnExactReplyOfWrong : ChangeSpec := { name := "fnExactReplyOf", fn := fun _ => fun
  | [d1, d2] => { results := [.lit (.bool false)], args := [d1, d2] }
  | _ => none }
def FnExactReplyOfWrongFalsely : Prop := fnExactReplyOfRow.holds Try.pinned (OpenSpec.ofChange fnExactReplyOfWrong)

/-- 'laws.FnExactReadAnswer': WHATEVER THE INPUT: true; the input reads as it did. -/
def fnExactReadAnswerSpec : ChangeSpec := { name := "fnExactReadAnswer", fn := fun _ => fun
  | [d1, d2] => { results := [.lit (.bool true)], args := [d1, d2] }
  | _ => none }
def fnExactReadAnswerRow : OpenClaim := { program := "ythgfbaannligeaa", sum := "82550e31b175ecbe44c8bc396ba6ad984b3a781813fdb39b5e147831097b972d", func := "loop.example/g00130/laws.FnExactReadAnswer", spec := "fnExactReadAnswer", apart := false }
def FnExactReadAnswerSaid : Prop := fnExactReadAnswerRow.holds Try.pinned (OpenSpec.ofChange fnExactReadAnswerSpec)

/-- ITS FALSE NEIGHBOUR: 'it returns false'. Refute it at one input. -/
def fnExactReadAnswerWrong : ChangeSpec := { name := "fnExactReadAnswer", fn := fun _ => fun
  | [d1, d2] => { results := [.lit (.bool false)], args := [d1, d2] }
  | _ => none }
def FnExactReadAnswerWrongFalsely : Prop := fnExactReadAnswerRow.holds Try.pinned (OpenSpec.ofChange fnExactReadAnswerWrong)

/-- 'laws.FnHeadNew': WHATEVER THE INPUT: true; the input reads as it did. -/
def fnHeadNewSpec : ChangeSpec := { name := "fnHeadNew", fn := fun _ => fun
  | [d] => { results := [.lit (.bool true)], args := [d] }
  | _ => none }
def fnHeadNewRow : OpenClaim := { program := "ythgfbaannligeaa", sum := "82550e31b175ecbe44c8bc396ba6ad984b3a781813fdb39b5e147831097b972d", func := "loop.example/g00130/laws.FnHeadNew", spec := "fnHeadNew", apart := false }
def FnHeadNewSaid : Prop := fnHeadNewRow.holds Try.pinned (OpenSpec.ofChange fnHeadNewSpec)

/-- ITS FALSE NEIGHBOUR: 'it returns false'. Refute it at one input. -/
def fnHeadNewWrong : ChangeSpec := { name := "fnHeadNew", fn := fun _ => fun
  | [d] => { results := [.lit (.bool false)], args := [d] }
  | _ => none }
def FnHeadNewWrongFalsely : Prop := fnHeadNewRow.holds Try.pinned (OpenSpec.ofChange fnHeadNewWrong)

/-- 'laws.FnExactHeadNew': WHATEVER THE INPUT: true; the input reads as it did. -/
def fnExactHeadNewSpec : ChangeSpec := { name := "fnExactHeadNew", fn := fun _ => fun
  | [d1, d2] => { results := [.lit (.bool true)], args := [d1, d2] }
  | _ => none }
def fnExactHeadNewRow : OpenClaim := { program := "ythgfbaannligeaa", sum := "82550e31b175ecbe44c8bc396ba6ad984b3a781813fdb39b5e147831097b972d", func := "loop.example/g00130/laws.FnExactHeadNew", spec := "fnExactHeadNew", apart := false }
def FnExactHeadNewSaid : Prop := fnExactHeadNewRow.holds Try.pinned (OpenSpec.ofChange fnExactHeadNewSpec)

/-- ITS FALSE NEIGHBOUR: 'it returns false'. Refute it at one input. -/
def fnExactHeadNewWrong : ChangeSpec := { name := "fnExactHeadNew", fn := fun _ => fun
  | [d1, d2] => { results := [.lit (.bool false)], args := [d1, d2] }
  | _ => none }
def FnExactHeadNewWrongFalsely : Prop := fnExactHeadNewRow.holds Try.pinned (OpenSpec.ofChange fnExactHeadNewWrong)

/-- 'laws.FnExactFollows': WHATEVER THE INPUT: true; the input reads as it did. -/
def fnExactFollowsSpec : ChangeSpec := { name := "fnExactFollows", fn := fun _ => fun
  | [d1, d2] => { results := [.lit (.bool true)], args := [d1, d2] }
  | _ => none }
def fnExactFollowsRow : OpenClaim := { program := "ythgfbaannligeaa", sum := "82550e31b175ecbe44c8bc396ba6ad984b3a781813fdb39b5e147831097b972d", func := "loop.example/g00130/laws.FnExactFollows", spec := "fnExactFollows", apart := false }
def FnExactFollowsSaid : Prop := fnExactFollowsRow.holds Try.pinned (OpenSpec.ofChange fnExactFollowsSpec)

/-- ITS FALSE NEIGHBOUR: 'it returns false'. Refute it at one input. -/
def fnExactFollowsWrong : ChangeSpec := { name := "fnExactFollows", fn := fun _ => fun
  | [d1, d2] => { results := [.lit (.bool false)], args := [d1, d2] }
  | _ => none }
def FnExactFollowsWrongFalsely : Prop := fnExactFollowsRow.holds Try.pinned (OpenSpec.ofChange fnExactFollowsWrong)

/-- 'laws.FnExactModel': WHATEVER THE INPUT: true; the input reads as it did. -/
def fnExactModelSpec : ChangeSpec := { name := "fnExactModel", fn := fun _ => fun
  | [d1, d2] => { results := [.lit (.bool true)], args := [d1, d2] }
  | _ => none }
def fnExactModelRow : OpenClaim := { program := "ythgfbaannligeaa", sum := "82550e31b175ecbe44c8bc396ba6ad984b3a781813fdb39b5e147831097b972d", func := "loop.example/g00130/laws.FnExactModel", spec := "fnExactModel", apart := false }
def FnExactModelSaid : Prop := fnExactModelRow.holds Try.pinned (OpenSpec.ofChange fnExactModelSpec)

/-- ITS FALSE NEIGHBOUR: 'it returns false'. Refute it at one input. -/
def fnExactModelWrong : ChangeSpec := { name := "fnExactModel", fn := fun _ => fun
  | [d1, d2] => { results := [.lit (.bool false)], args := [d1, d2] }
  | _ => none }
def FnExactModelWrongFalsely : Prop := fnExactModelRow.holds Try.pinned (OpenSpec.ofChange fnExactModelWrong)

/-- 'laws.FnModels': WHATEVER THE INPUT: true; the input reads as it did. -/
def fnModelsSpec : ChangeSpec := { name := "fnModels", fn := fun _ => fun
  | [d] => { results := [.lit (.bool true)], args := [d] }
  | _ => none }
def fnModelsRow : OpenClaim := { program := "ythgfbaannligeaa", sum := "82550e31b175ecbe44c8bc396ba6ad984b3a781813fdb39b5e147831097b972d", func := "loop.example/g00130/laws.FnModels", spec := "fnModels", apart := false }
def FnModelsSaid : Prop := fnModelsRow.holds Try.pinned (OpenSpec.ofChange fnModelsSpec)

/-- ITS FALSE NEIGHBOUR: 'it returns false'. Refute it at one input. -/
def fnModelsWrong : ChangeSpec := { name := "fnModels", fn := fun _ => fun
  | [d] => { results := [.lit (.bool false)], args := [d] }
  | _ => none }
def FnModelsWrongFalsely : Prop := fnModelsRow.holds Try.pinned (OpenSpec.ofChange fnModelsWrong)

/-- 'laws.FnExactRecText': WHATEVER THE INPUT: true; the input reads as it did. -/
def fnExactRecTextSpec : ChangeSpec := { name := "fnExactRecText", fn := fun _ => fun
  | [d1, d2] => { results := [.lit (.bool true)], args := [d1, d2] }
  | _ => none }
def fnExactRecTextRow : OpenClaim := { program := "ythgfbaannligeaa", sum := "82550e31b175ecbe44c8bc396ba6ad984b3a781813fdb39b5e147831097b972d", func := "loop.example/g00130/laws.FnExactRecText", spec := "fnExactRecText", apart := false }
def FnExactRecTextSaid : Prop := fnExactRecTextRow.holds Try.pinned (OpenSpec.ofChange fnExactRecTextSpec)

/-- ITS FALSE NEIGHBOUR: 'it returns false'. Refute it at one input. -/
def fnExactRecTextWrong : ChangeSpec := { name := "fnExactRecText", fn := fun _ => fun
  | [d1, d2] => { results := [.lit (.bool false)], args := [d1, d2] }
  | _ => none }
def FnExactRecTextWrongFalsely : Prop := fnExactRecTextRow.holds Try.pinned (OpenSpec.ofChange fnExactRecTextWrong)

/-- 'laws.FnExactHeadOk': WHATEVER THE INPUT: true; the input reads as it did. -/
def fnExactHeadOkSpec : ChangeSpec := { name := "fnExactHeadOk", fn := fun _ => fun
  | [d] => { results := [.lit (.bool true)], args := [d] }
  | _ => none }
def fnExactHeadOkRow : OpenClaim := { program := "ythgfbaannligeaa", sum := "82550e31b175ecbe44c8bc396ba6ad984b3a781813fdb39b5e147831097b972d", func := "loop.example/g00130/laws.FnExactHeadOk", spec := "fnExactHeadOk", apart := false }
def FnExactHeadOkSaid : Prop := fnExactHeadOkRow.holds Try.pinned (OpenSpec.ofChange fnExactHeadOkSpec)

/-- ITS FALSE NEIGHBOUR: 'it returns false'. Refute it at one input. -/
def fnExactHeadOkWrong : ChangeSpec := { name := "fnExactHeadOk", fn := fun _ => fun
  | [d] => { results := [.lit (.bool false)], args := [d] }
  | _ => none }
def FnExactHeadOkWrongFalsely : Prop := fnExactHeadOkRow.holds Try.pinned (OpenSpec.ofChange fnExactHeadOkWrong)

/-- 'laws.FnForests': WHATEVER THE INPUT: true; the input reads as it did. -/
def fnForestsSpec : ChangeSpec := { name := "fnForests", fn := fun _ => fun
  | [d] => { results := [.lit (.bool true)], args := [d] }
  | _ => none }
def fnForestsRow : OpenClaim := { program := "ythgfbaannligeaa", sum := "82550e31b175ecbe44c8bc396ba6ad984b3a781813fdb39b5e147831097b972d", func := "loop.example/g00130/laws.FnForests", spec := "fnForests", apart := false }
def FnForestsSaid : Prop := fnForestsRow.holds Try.pinned (OpenSpec.ofChange fnForestsSpec)

/-- ITS FALSE NEIGHBOUR: 'it returns false'. Refute it at one input. -/
def fnForestsWrong : ChangeSpec := { name := "fnForests", fn := fun _ => fun
  | [d] => { results := [.lit (.bool false)], args := [d] }
  | _ => none }
def FnForestsWrongFalsely : Prop := fnForestsRow.holds Try.pinned (OpenSpec.ofChange fnForestsWrong)

/-- 'laws.FnOrders': WHATEVER THE INPUT: true; the input reads as it did. -/
def fnOrdersSpec : ChangeSpec := { name := "fnOrders", fn := fun _ => fun
  | [d] => { results := [.lit (.bool true)], args := [d] }
  | _ => none }
def fnOrdersRow : OpenClaim := { program := "ythgfbaannligeaa", sum := "82550e31b175ecbe44c8bc396ba6ad984b3a781813fdb39b5e147831097b972d", func := "loop.example/g00130/laws.FnOrders", spec := "fnOrders", apart := false }
def FnOrdersSaid : Prop := fnOrdersRow.holds Try.pinned (OpenSpec.ofChange fnOrdersSpec)

/-- ITS FALSE NEIGHBOUR: 'it returns false'. Refute it at one input. -/
def fnOrdersWrong : ChangeSpec := { name := "fnOrders", fn := fun _ => fun
  | [d] => { results := [.lit (.bool false)], args := [d] }
  | _ => none }
def FnOrdersWrongFalsely : Prop := fnOrdersRow.holds Try.pinned (OpenSpec.ofChange fnOrdersWrong)

/-- 'laws.FnExactShardOk': WHATEVER THE INPUT: true; the input reads as it did. -/
def fnExactShardOkSpec : ChangeSpec := { name := "fnExactShardOk", fn := fun _ => fun
  | [d] => { results := [.lit (.bool true)], args := [d] }
  | _ => none }
def fnExactShardOkRow : OpenClaim := { program := "ythgfbaannligeaa", sum := "82550e31b175ecbe44c8bc396ba6ad984b3a781813fdb39b5e147831097b972d", func := "loop.example/g00130/laws.FnExactShardOk", spec := "fnExactShardOk", recurses := true, apart := false }
def FnExactShardOkSaid : Prop := fnExactShardOkRow.holds Try.pinned (OpenSpec.ofChange fnExactShardOkSpec)

/-- ITS FALSE NEIGHBOUR: 'it returns false'. Refute it at one input. -/
def fnExactShardOkWrong : ChangeSpec := { name := "fnExactShardOk", fn := fun _ => fun
  | [d] => { results := [.lit (.bool false)], args := [d] }
  | _ => none }
def FnExactShardOkWrongFalsely : Prop := fnExactShardOkRow.holds Try.pinned (OpenSpec.ofChange fnExactShardOkWrong)

/-- 'laws.FnExactReadRec': WHATEVER THE INPUT: true; the input reads as it did. -/
def fnExactReadRecSpec : ChangeSpec := { name := "fnExactReadRec", fn := fun _ => fun
  | [d1, d2] => { results := [.lit (.bool true)], args := [d1, d2] }
  | _ => none }
def fnExactReadRecRow : OpenClaim := { program := "ythgfbaannligeaa", sum := "82550e31b175ecbe44c8bc396ba6ad984b3a781813fdb39b5e147831097b972d", func := "loop.example/g00130/laws.FnExactReadRec", spec := "fnExactReadRec", apart := false }
def FnExactReadRecSaid : Prop := fnExactReadRecRow.holds Try.pinned (OpenSpec.ofChange fnExactReadRecSpec)

/-- ITS FALSE NEIGHBOUR: 'it returns false'. Refute it at one input. -/
def fnExactReadRecWrong : ChangeSpec := { name := "fnExactReadRec", fn := fun _ => fun
  | [d1, d2] => { results := [.lit (.bool false)], args := [d1, d2] }
  | _ => none }
def FnExactReadRecWrongFalsely : Prop := fnExactReadRecRow.holds Try.pinned (OpenSpec.ofChange fnExactReadRecWrong)

/-- 'laws.FnWebs': WHATEVER THE INPUT: true; the input reads as it did. -/
def fnWebsSpec : ChangeSpec := { name := "fnWebs", fn := fun _ => fun
  | [d] => { results := [.lit (.bool true)], args := [d] }
  | _ => none }
def fnWebsRow : OpenClaim := { program := "ythgfbaannligeaa", sum := "82550e31b175ecbe44c8bc396ba6ad984b3a781813fdb39b5e147831097b972d", func := "loop.example/g00130/laws.FnWebs", spec := "fnWebs", recurses := true, apart := false }
def FnWebsSaid : Prop := fnWebsRow.holds Try.pinned (OpenSpec.ofChange fnWebsSpec)

/-- ITS FALSE NEIGHBOUR: 'it returns false'. Refute it at one input. -/
def fnWebsWrong : ChangeSpec := { name := "fnWebs", fn := fun _ => fun
  | [d] => { results := [.lit (.bool false)], args := [d] }
  | _ => none }
def FnWebsWrongFalsely : Prop := fnWebsRow.holds Try.pinned (OpenSpec.ofChange fnWebsWrong)

/-- 'laws.FnExactLogActs': WHATEVER THE INPUT: true; the input reads as it did. -/
def fnExactLogActsSpec : ChangeSpec := { name := "fnExactLogActs", fn := fun _ => fun
  | [d1, d2, d3] => { results := [.lit (.bool true)], args := [d1, d2, d3] }
  | _ => none }
def fnExactLogActsRow : OpenClaim := { program := "ythgfbaannligeaa", sum := "82550e31b175ecbe44c8bc396ba6ad984b3a781813fdb39b5e147831097b972d", func := "loop.example/g00130/laws.FnExactLogActs", spec := "fnExactLogActs", apart := false }
def FnExactLogActsSaid : Prop := fnExactLogActsRow.holds Try.pinned (OpenSpec.ofChange fnExactLogActsSpec)

/-- ITS FALSE NEIGHBOUR: 'it returns false'. Refute it at one input. -/
def fnExactLogActsWrong : ChangeSpec := { name := "fnExactLogActs", fn := fun _ => fun
  | [d1, d2, d3] => { results := [.lit (.bool false)], args := [d1, d2, d3] }
  | _ => none }
def FnExactLogActsWrongFalsely : Prop := fnExactLogActsRow.holds Try.pinned (OpenSpec.ofChange fnExactLogActsWrong)

/-- 'laws.FnExactReadRecs': WHATEVER THE INPUT: true; the input reads as it did. -/
def fnExactReadRecsSpec : ChangeSpec := { name := "fnExactReadRecs", fn := fun _ => fun
  | [d1, d2] => { results := [.lit (.bool true)], args := [d1, d2] }
  | _ => none }
def fnExactReadRecsRow : OpenClaim := { program := "ythgfbaannligeaa", sum := "82550e31b175ecbe44c8bc396ba6ad984b3a781813fdb39b5e147831097b972d", func := "loop.example/g00130/laws.FnExactReadRecs", spec := "fnExactReadRecs", apart := false }
def FnExactReadRecsSaid : Prop := fnExactReadRecsRow.holds Try.pinned (OpenSpec.ofChange fnExactReadRecsSpec)

/-- ITS FALSE NEIGHBOUR: 'it returns false'. Refute it at one input. -/
def fnExactReadRecsWrong : ChangeSpec := { name := "fnExactReadRecs", fn := fun _ => fun
  | [d1, d2] => { results := [.lit (.bool false)], args := [d1, d2] }
  | _ => none }
def FnExactReadRecsWrongFalsely : Prop := fnExactReadRecsRow.holds Try.pinned (OpenSpec.ofChange fnExactReadRecsWrong)

/-- 'laws.FnExactMendActs': WHATEVER THE INPUT: true; the input reads as it did. -/
def fnExactMendActsSpec : ChangeSpec := { name := "fnExactMendActs", fn := fun _ => fun
  | [d1, d2] => { results := [.lit (.bool true)], args := [d1, d2] }
  | _ => none }
def fnExactMendActsRow : OpenClaim := { program := "ythgfbaannligeaa", sum := "82550e31b175ecbe44c8bc396ba6ad984b3a781813fdb39b5e147831097b972d", func := "loop.example/g00130/laws.FnExactMendActs", spec := "fnExactMendActs", apart := false }
def FnExactMendActsSaid : Prop := fnExactMendActsRow.holds Try.pinned (OpenSpec.ofChange fnExactMendActsSpec)

/-- ITS FALSE NEIGHBOUR: 'it returns false'. Refute it at one input. -/
def fnExactMendActsWrong : ChangeSpec := { name := "fnExactMendActs", fn := fun _ => fun
  | [d1, d2] => { results := [.lit (.bool false)], args := [d1, d2] }
  | _ => none }
def FnExactMendActsWrongFalsely : Prop := fnExactMendActsRow.holds Try.pinned (OpenSpec.ofChange fnExactMendActsWrong)

/- THE SECOND FORM. 'bulk': how many values and letters a reading holds, each counted each time it is reached (what is shared counts as often as it is met; a slice's spare places count too). A statement '..UptoSaid' is the law's where the arguments, and the package variables that the reading takes, are together of bulk at most 1048576: NARROWER than '..Said'. Prove '..Said' where nothing that the law and all that it calls make is longer than what came in: it says more and counts as full. Else prove '..UptoSaid'. A law counts once. -/
mutual
def uptoBulk {H : Type} : DataW H → Nat
  | .lit (.string bytes) => bytes.length + 1
  | .lit _ => 1
  | .nil => 1
  | .ptr d => uptoBulk d + 1
  | .slice elems spare => uptoBulkAll elems + uptoBulkAll spare + 1
  | .agg parts => uptoBulkAll parts + 1
  | .iface _ d => uptoBulk d + 1
  | .map entries => uptoBulkEntries entries + 1
  | .held _ => 1
def uptoBulkAll {H : Type} : List (DataW H) → Nat
  | [] => 0
  | d :: r => uptoBulk d + uptoBulkAll r
def uptoBulkEntries {H : Type} : List (Lit × DataW H) → Nat
  | [] => 0
  | x :: r => uptoBulkEntry x + uptoBulkEntries r
def uptoBulkEntry {H : Type} : Lit × DataW H → Nat
  | (.string bytes, d) => bytes.length + uptoBulk d + 1
  | (_, d) => uptoBulk d + 1
 end
def uptoSmall : (H : Type) → List (DataW H) → Bool := fun _ ds => decide (uptoBulkAll ds ≤ 1048576)
def OpenSpec.upto (s : _root_.Go.ChangeSpec) : _root_.Go.OpenSpec := { _root_.Go.OpenSpec.ofChange s with cond := some uptoSmall }

/-- 'laws.FnShardNew', WHERE WHAT IT READS IS OF BULK AT MOST 1048576: true; the input reads as it did. -/
def fnShardNewUptoRow : OpenClaim := { program := "ythgfbaannligeaa", sum := "82550e31b175ecbe44c8bc396ba6ad984b3a781813fdb39b5e147831097b972d", func := "loop.example/g00130/laws.FnShardNew", spec := "fnShardNew", apart := false, narrowed := true }
def FnShardNewUptoSaid : Prop := fnShardNewUptoRow.holds Try.pinned (OpenSpec.upto fnShardNewSpec)

/-- 'laws.FnExactWholeLabels', WHERE WHAT IT READS IS OF BULK AT MOST 1048576: true; the input reads as it did. -/
def fnExactWholeLabelsUptoRow : OpenClaim := { program := "ythgfbaannligeaa", sum := "82550e31b175ecbe44c8bc396ba6ad984b3a781813fdb39b5e147831097b972d", func := "loop.example/g00130/laws.FnExactWholeLabels", spec := "fnExactWholeLabels", apart := false, narrowed := true }
def FnExactWholeLabelsUptoSaid : Prop := fnExactWholeLabelsUptoRow.holds Try.pinned (OpenSpec.upto fnExactWholeLabelsSpec)

/-- 'laws.FnWholes', WHERE WHAT IT READS IS OF BULK AT MOST 1048576: true; the input reads as it did. -/
def fnWholesUptoRow : OpenClaim := { program := "ythgfbaannligeaa", sum := "82550e31b175ecbe44c8bc396ba6ad984b3a781813fdb39b5e147831097b972d", func := "loop.example/g00130/laws.FnWholes", spec := "fnWholes", apart := false, narrowed := true }
def FnWholesUptoSaid : Prop := fnWholesUptoRow.holds Try.pinned (OpenSpec.upto fnWholesSpec)

/-- 'laws.FnExactShardNew', WHERE WHAT IT READS IS OF BULK AT MOST 1048576: true; the input reads as it did. -/
def fnExactShardNewUptoRow : OpenClaim := { program := "ythgfbaannligeaa", sum := "82550e31b175ecbe44c8bc396ba6ad984b3a781813fdb39b5e147831097b972d", func := "loop.example/g00130/laws.FnExactShardNew", spec := "fnExactShardNew", apart := false, narrowed := true }
def FnExactShardNewUptoSaid : Prop := fnExactShardNewUptoRow.holds Try.pinned (OpenSpec.upto fnExactShardNewSpec)

/-- 'laws.FnExactReadOrder', WHERE WHAT IT READS IS OF BULK AT MOST 1048576: true; the input reads as it did. -/
def fnExactReadOrderUptoRow : OpenClaim := { program := "ythgfbaannligeaa", sum := "82550e31b175ecbe44c8bc396ba6ad984b3a781813fdb39b5e147831097b972d", func := "loop.example/g00130/laws.FnExactReadOrder", spec := "fnExactReadOrder", apart := false, narrowed := true }
def FnExactReadOrderUptoSaid : Prop := fnExactReadOrderUptoRow.holds Try.pinned (OpenSpec.upto fnExactReadOrderSpec)

/-- 'laws.FnExactOwned', WHERE WHAT IT READS IS OF BULK AT MOST 1048576: true; the input reads as it did. -/
def fnExactOwnedUptoRow : OpenClaim := { program := "ythgfbaannligeaa", sum := "82550e31b175ecbe44c8bc396ba6ad984b3a781813fdb39b5e147831097b972d", func := "loop.example/g00130/laws.FnExactOwned", spec := "fnExactOwned", apart := false, narrowed := true }
def FnExactOwnedUptoSaid : Prop := fnExactOwnedUptoRow.holds Try.pinned (OpenSpec.upto fnExactOwnedSpec)

/-- 'laws.FnExactBusy', WHERE WHAT IT READS IS OF BULK AT MOST 1048576: true; the input reads as it did. -/
def fnExactBusyUptoRow : OpenClaim := { program := "ythgfbaannligeaa", sum := "82550e31b175ecbe44c8bc396ba6ad984b3a781813fdb39b5e147831097b972d", func := "loop.example/g00130/laws.FnExactBusy", spec := "fnExactBusy", apart := false, narrowed := true }
def FnExactBusyUptoSaid : Prop := fnExactBusyUptoRow.holds Try.pinned (OpenSpec.upto fnExactBusySpec)

/-- 'laws.FnExactReplyOf', WHERE WHAT IT READS IS OF BULK AT MOST 1048576: true; the input reads as it did. -/
def fnExactReplyOfUptoRow : OpenClaim := { program := "ythgfbaannligeaa", sum := "82550e31b175ecbe44c8bc396ba6ad984b3a781813fdb39b5e147831097b972d", func := "loop.example/g00130/laws.FnExactReplyOf", spec := "fnExactReplyOf", apart := false, narrowed := true }
def FnExactReplyOfUptoSaid : Prop := fnExactReplyOfUptoRow.holds Try.pinned (OpenSpec.upto fnExactReplyOfSpec)

/-- 'laws.FnExactReadAnswer', WHERE WHAT IT READS IS OF BULK AT MOST 1048576: true; the input reads as it did. -/
def fnExactReadAnswerUptoRow : OpenClaim := { program := "ythgfbaannligeaa", sum := "82550e31b175ecbe44c8bc396ba6ad984b3a781813fdb39b5e147831097b972d", func := "loop.example/g00130/laws.FnExactReadAnswer", spec := "fnExactReadAnswer", apart := false, narrowed := true }
def FnExactReadAnswerUptoSaid : Prop := fnExactReadAnswerUptoRow.holds Try.pinned (OpenSpec.upto fnExactReadAnswerSpec)

/-- 'laws.FnHeadNew', WHERE WHAT IT READS IS OF BULK AT MOST 1048576: true; the input reads as it did. -/
def fnHeadNewUptoRow : OpenClaim := { program := "ythgfbaannligeaa", sum := "82550e31b175ecbe44c8bc396ba6ad984b3a781813fdb39b5e147831097b972d", func := "loop.example/g00130/laws.FnHeadNew", spec := "fnHeadNew", apart := false, narrowed := true }
def FnHeadNewUptoSaid : Prop := fnHeadNewUptoRow.holds Try.pinned (OpenSpec.upto fnHeadNewSpec)

/-- 'laws.FnExactHeadNew', WHERE WHAT IT READS IS OF BULK AT MOST 1048576: true; the input reads as it did. -/
def fnExactHeadNewUptoRow : OpenClaim := { program := "ythgfbaannligeaa", sum := "82550e31b175ecbe44c8bc396ba6ad984b3a781813fdb39b5e147831097b972d", func := "loop.example/g00130/laws.FnExactHeadNew", spec := "fnExactHeadNew", apart := false, narrowed := true }
def FnExactHeadNewUptoSaid : Prop := fnExactHeadNewUptoRow.holds Try.pinned (OpenSpec.upto fnExactHeadNewSpec)

/-- 'laws.FnExactFollows', WHERE WHAT IT READS IS OF BULK AT MOST 1048576: true; the input reads as it did. -/
def fnExactFollowsUptoRow : OpenClaim := { program := "ythgfbaannligeaa", sum := "82550e31b175ecbe44c8bc396ba6ad984b3a781813fdb39b5e147831097b972d", func := "loop.example/g00130/laws.FnExactFollows", spec := "fnExactFollows", apart := false, narrowed := true }
def FnExactFollowsUptoSaid : Prop := fnExactFollowsUptoRow.holds Try.pinned (OpenSpec.upto fnExactFollowsSpec)

/-- 'laws.FnExactModel', WHERE WHAT IT READS IS OF BULK AT MOST 1048576: true; the input reads as it did. -/
def fnExactModelUptoRow : OpenClaim := { program := "ythgfbaannligeaa", sum := "82550e31b175ecbe44c8bc396ba6ad984b3a781813fdb39b5e147831097b972d", func := "loop.example/g00130/laws.FnExactModel", spec := "fnExactModel", apart := false, narrowed := true }
def FnExactModelUptoSaid : Prop := fnExactModelUptoRow.holds Try.pinned (OpenSpec.upto fnExactModelSpec)

/-- 'laws.FnModels', WHERE WHAT IT READS IS OF BULK AT MOST 1048576: true; the input reads as it did. -/
def fnModelsUptoRow : OpenClaim := { program := "ythgfbaannligeaa", sum := "82550e31b175ecbe44c8bc396ba6ad984b3a781813fdb39b5e147831097b972d", func := "loop.example/g00130/laws.FnModels", spec := "fnModels", apart := false, narrowed := true }
def FnModelsUptoSaid : Prop := fnModelsUptoRow.holds Try.pinned (OpenSpec.upto fnModelsSpec)

/-- 'laws.FnExactRecText', WHERE WHAT IT READS IS OF BULK AT MOST 1048576: true; the input reads as it did. -/
def fnExactRecTextUptoRow : OpenClaim := { program := "ythgfbaannligeaa", sum := "82550e31b175ecbe44c8bc396ba6ad984b3a781813fdb39b5e147831097b972d", func := "loop.example/g00130/laws.FnExactRecText", spec := "fnExactRecText", apart := false, narrowed := true }
def FnExactRecTextUptoSaid : Prop := fnExactRecTextUptoRow.holds Try.pinned (OpenSpec.upto fnExactRecTextSpec)

/-- 'laws.FnExactHeadOk', WHERE WHAT IT READS IS OF BULK AT MOST 1048576: true; the input reads as it did. -/
def fnExactHeadOkUptoRow : OpenClaim := { program := "ythgfbaannligeaa", sum := "82550e31b175ecbe44c8bc396ba6ad984b3a781813fdb39b5e147831097b972d", func := "loop.example/g00130/laws.FnExactHeadOk", spec := "fnExactHeadOk", apart := false, narrowed := true }
def FnExactHeadOkUptoSaid : Prop := fnExactHeadOkUptoRow.holds Try.pinned (OpenSpec.upto fnExactHeadOkSpec)

/-- 'laws.FnForests', WHERE WHAT IT READS IS OF BULK AT MOST 1048576: true; the input reads as it did. -/
def fnForestsUptoRow : OpenClaim := { program := "ythgfbaannligeaa", sum := "82550e31b175ecbe44c8bc396ba6ad984b3a781813fdb39b5e147831097b972d", func := "loop.example/g00130/laws.FnForests", spec := "fnForests", apart := false, narrowed := true }
def FnForestsUptoSaid : Prop := fnForestsUptoRow.holds Try.pinned (OpenSpec.upto fnForestsSpec)

/-- 'laws.FnOrders', WHERE WHAT IT READS IS OF BULK AT MOST 1048576: true; the input reads as it did. -/
def fnOrdersUptoRow : OpenClaim := { program := "ythgfbaannligeaa", sum := "82550e31b175ecbe44c8bc396ba6ad984b3a781813fdb39b5e147831097b972d", func := "loop.example/g00130/laws.FnOrders", spec := "fnOrders", apart := false, narrowed := true }
def FnOrdersUptoSaid : Prop := fnOrdersUptoRow.holds Try.pinned (OpenSpec.upto fnOrdersSpec)

/-- 'laws.FnExactShardOk', WHERE WHAT IT READS IS OF BULK AT MOST 1048576: true; the input reads as it did. -/
def fnExactShardOkUptoRow : OpenClaim := { program := "ythgfbaannligeaa", sum := "82550e31b175ecbe44c8bc396ba6ad984b3a781813fdb39b5e147831097b972d", func := "loop.example/g00130/laws.FnExactShardOk", spec := "fnExactShardOk", recurses := true, apart := false, narrowed := true }
def FnExactShardOkUptoSaid : Prop := fnExactShardOkUptoRow.holds Try.pinned (OpenSpec.upto fnExactShardOkSpec)

/-- 'laws.FnExactReadRec', WHERE WHAT IT READS IS OF BULK AT MOST 1048576: true; the input reads as it did. -/
def fnExactReadRecUptoRow : OpenClaim := { program := "ythgfbaannligeaa", sum := "82550e31b175ecbe44c8bc396ba6ad984b3a781813fdb39b5e147831097b972d", func := "loop.example/g00130/laws.FnExactReadRec", spec := "fnExactReadRec", apart := false, narrowed := true }
def FnExactReadRecUptoSaid : Prop := fnExactReadRecUptoRow.holds Try.pinned (OpenSpec.upto fnExactReadRecSpec)

/-- 'laws.FnWebs', WHERE WHAT IT READS IS OF BULK AT MOST 1048576: true; the input reads as it did. -/
def fnWebsUptoRow : OpenClaim := { program := "ythgfbaannligeaa", sum := "82550e31b175ecbe44c8bc396ba6ad984b3a781813fdb39b5e147831097b972d", func := "loop.example/g00130/laws.FnWebs", spec := "fnWebs", recurses := true, apart := false, narrowed := true }
def FnWebsUptoSaid : Prop := fnWebsUptoRow.holds Try.pinned (OpenSpec.upto fnWebsSpec)

/-- 'laws.FnExactLogActs', WHERE WHAT IT READS IS OF BULK AT MOST 1048576: true; the input reads as it did. -/
def fnExactLogActsUptoRow : OpenClaim := { program := "ythgfbaannligeaa", sum := "82550e31b175ecbe44c8bc396ba6ad984b3a781813fdb39b5e147831097b972d", func := "loop.example/g00130/laws.FnExactLogActs", spec := "fnExactLogActs", apart := false, narrowed := true }
def FnExactLogActsUptoSaid : Prop := fnExactLogActsUptoRow.holds Try.pinned (OpenSpec.upto fnExactLogActsSpec)

/-- 'laws.FnExactReadRecs', WHERE WHAT IT READS IS OF BULK AT MOST 1048576: true; the input reads as it did. -/
def fnExactReadRecsUptoRow : OpenClaim := { program := "ythgfbaannligeaa", sum := "82550e31b175ecbe44c8bc396ba6ad984b3a781813fdb39b5e147831097b972d", func := "loop.example/g00130/laws.FnExactReadRecs", spec := "fnExactReadRecs", apart := false, narrowed := true }
def FnExactReadRecsUptoSaid : Prop := fnExactReadRecsUptoRow.holds Try.pinned (OpenSpec.upto fnExactReadRecsSpec)

/-- 'laws.FnExactMendActs', WHERE WHAT IT READS IS OF BULK AT MOST 1048576: true; the input reads as it did. -/
def fnExactMendActsUptoRow : OpenClaim := { program := "ythgfbaannligeaa", sum := "82550e31b175ecbe44c8bc396ba6ad984b3a781813fdb39b5e147831097b972d", func := "loop.example/g00130/laws.FnExactMendActs", spec := "fnExactMendActs", apart := false, narrowed := true }
def FnExactMendActsUptoSaid : Prop := fnExactMendActsUptoRow.holds Try.pinned (OpenSpec.upto fnExactMendActsSpec)

end Rows
end Go.Proofs.Ythgfbaannligeaa
