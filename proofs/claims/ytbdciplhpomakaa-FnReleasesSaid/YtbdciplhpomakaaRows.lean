/-
  No cell of these rows narrows 'for every input' (looked for: loops, veiled, ifaces, maps, wideKeys, modest, calm, conditions, laid).
  DERIVED. THE GIVEN ROWS OF THIS SEAT. 3 by the template 'for every input the law returns true; each argument reads behind the call as it read before'; 0 by the template 'total and deterministic' (their statements: YtbdciplhpomakaaTotals.lean).
  GIVEN WITH THE SEED: the statements are not yours to turn. If you find one false, say at which input.
  Laid BY PROGRAM, IN A SANDBOX (cutbox-rows.mjs): the forced cells as the released guide's own fill.sh prints them over the translation 18633443e8dfe2ce… (all of the seat's roots in one cut). By AI agents, Wed Nov 11 2026. No macro, syntax, notation, axiom, sorry.
-/
import Derived.Test.YtbdciplhpomakaaChecked
import GoSem.Claim
import GoSem.ClaimJoined
import GoSem.ClaimMapViews
import Derived.JoinedTies
import Derived.KernelRfl
namespace Go.Proofs.Ytbdciplhpomakaa
/- THE CELL 'sum', in the pinned program and in every row, IS THE sha256 OF THE DUMP (.gsa) THAT YtbdciplhpomakaaProg.lean LOADS. Nothing in Lean hashes anything: it is a label: what it is worth is what the hold of that sum in a sandbox is worth. -/
noncomputable def Try.pinned : Pinned := { name := "ytbdciplhpomakaa", sum := "18633443e8dfe2ce44d7500c1bede6781620fb0b0dcbf3d84acbf0b8cf9ace7c", checked := Try.checked }
namespace Rows
def none {H : Type} : Left H := { results := [], args := [] }

/-- 'laws.FnWebs': WHATEVER THE INPUT: true; the input reads as it did. -/
def fnWebsSpec : ChangeSpec := { name := "fnWebs", fn := fun _ => fun
  | [d] => { results := [.lit (.bool true)], args := [d] }
  | _ => none }
def fnWebsRow : OpenClaim := { program := "ytbdciplhpomakaa", sum := "18633443e8dfe2ce44d7500c1bede6781620fb0b0dcbf3d84acbf0b8cf9ace7c", func := "loop.example/g00130/laws.FnWebs", spec := "fnWebs", recurses := true, apart := false }
def FnWebsSaid : Prop := fnWebsRow.holds Try.pinned (OpenSpec.ofChange fnWebsSpec)

/-- ITS FALSE NEIGHBOUR: 'it returns false'. Refute it at one input. -/
def fnWebsWrong : ChangeSpec := { name := "fnWebs", fn := fun _ => fun
  | [d] => { results := [.lit (.bool false)], args := [d] }
  | _ => none }
def FnWebsWrongFalsely : Prop := fnWebsRow.holds Try.pinned (OpenSpec.ofChange fnWebsWrong)

/-- 'laws.FnObeys': WHATEVER THE INPUT: true; the input reads as it did. -/
def fnObeysSpec : ChangeSpec := { name := "fnObeys", fn := fun _ => fun
  | [d] => { results := [.lit (.bool true)], args := [d] }
  | _ => none }
def fnObeysRow : OpenClaim := { program := "ytbdciplhpomakaa", sum := "18633443e8dfe2ce44d7500c1bede6781620fb0b0dcbf3d84acbf0b8cf9ace7c", func := "loop.example/g00130/laws.FnObeys", spec := "fnObeys", recurses := true, apart := false }
def FnObeysSaid : Prop := fnObeysRow.holds Try.pinned (OpenSpec.ofChange fnObeysSpec)

/-- ITS FALSE NEIGHBOUR: 'it returns false'. Refute it at one input. -/
def fnObeysWrong : ChangeSpec := { name := "fnObeys", fn := fun _ => fun
  | [d] => { results := [.lit (.bool false)], args := [d] }
  | _ => none }
def FnObeysWrongFalsely : Prop := fnObeysRow.holds Try.pinned (OpenSpec.ofChange fnObeysWrong)

/-- 'laws.FnReleases': WHATEVER THE INPUT: true; the input reads as it did. -/
def fnReleasesSpec : ChangeSpec := { name := "fnReleases", fn := fun _ => fun
  | [d] => { results := [.lit (.bool true)], args := [d] }
  | _ => none }
def fnReleasesRow : OpenClaim := { program := "ytbdciplhpomakaa", sum := "18633443e8dfe2ce44d7500c1bede6781620fb0b0dcbf3d84acbf0b8cf9ace7c", func := "loop.example/g00130/laws.FnReleases", spec := "fnReleases", recurses := true, apart := false }
def FnReleasesSaid : Prop := fnReleasesRow.holds Try.pinned (OpenSpec.ofChange fnReleasesSpec)

/-- ITS FALSE NEIGHBOUR: 'it returns false'. Refute it at one input. -/
def fnReleasesWrong : ChangeSpec := { name := "fnReleases", fn := fun _ => fun
  | [d] => { results := [.lit (.bool false)], args := [d] }
  | _ => none }
def FnReleasesWrongFalsely : Prop := fnReleasesRow.holds Try.pinned (OpenSpec.ofChange fnReleasesWrong)

/- THE SECOND FORM. 'bulk': how many values and letters a reading holds, each counted each time it is reached (what is shared counts as often as it is met; a slice's spare places count too). A statement '..UptoSaid' is the law's where the arguments, and the package variables that the reading takes, are together of bulk at most 1048576: NARROWER than '..Said'. Prove '..Said' where nothing that the law and all that it calls make is longer than what came in: it says more and counts as full. Else prove '..UptoSaid'. A law counts once. -/
mutual
def uptoBulk {H : Type} : DataW H → Nat
  | .lit (.string bytes) => bytes.length + 1
  | .lit _ => 1
  | .nil => 1
  | .ptr d => uptoBulk d + 1
  | .slice elems spare => uptoBulkAll elems + uptoBulkAll spare + 1
  | .agg parts => uptoBulkAll parts + 1
  | .iface _ d => uptoBulk d + 1
  | .map entries => uptoBulkEntries entries + 1
  | .held _ => 1
def uptoBulkAll {H : Type} : List (DataW H) → Nat
  | [] => 0
  | d :: r => uptoBulk d + uptoBulkAll r
def uptoBulkEntries {H : Type} : List (Lit × DataW H) → Nat
  | [] => 0
  | x :: r => uptoBulkEntry x + uptoBulkEntries r
def uptoBulkEntry {H : Type} : Lit × DataW H → Nat
  | (.string bytes, d) => bytes.length + uptoBulk d + 1
  | (_, d) => uptoBulk d + 1
 end
def uptoSmall : (H : Type) → List (DataW H) → Bool := fun _ ds => decide (uptoBulkAll ds ≤ 1048576)
def OpenSpec.upto (s : _root_.Go.ChangeSpec) : _root_.Go.OpenSpec := { _root_.Go.OpenSpec.ofChange s with cond := some uptoSmall }

/-- 'laws.FnWebs', WHERE WHAT IT READS IS OF BULK AT MOST 1048576: true; the input reads as it did. -/
def fnWebsUptoRow : OpenClaim := { program := "ytbdciplhpomakaa", sum := "18633443e8dfe2ce44d7500c1bede6781620fb0b0dcbf3d84acbf0b8cf9ace7c", func := "loop.example/g00130/laws.FnWebs", spec := "fnWebs", recurses := true, apart := false, narrowed := true }
def FnWebsUptoSaid : Prop := fnWebsUptoRow.holds Try.pinned (OpenSpec.upto fnWebsSpec)

/-- 'laws.FnObeys', WHERE WHAT IT READS IS OF BULK AT MOST 1048576: true; the input reads as it did. -/
def fnObeysUptoRow : OpenClaim := { program := "ytbdciplhpomakaa", sum := "18633443e8dfe2ce44d7500c1bede6781620fb0b0dcbf3d84acbf0b8cf9ace7c", func := "loop.example/g00130/laws.FnObeys", spec := "fnObeys", recurses := true, apart := false, narrowed := true }
def FnObeysUptoSaid : Prop := fnObeysUptoRow.holds Try.pinned (OpenSpec.upto fnObeysSpec)

/-- 'laws.FnReleases', WHERE WHAT IT READS IS OF BULK AT MOST 1048576: true; the input reads as it did. -/
def fnReleasesUptoRow : OpenClaim := { program := "ytbdciplhpomakaa", sum := "18633443e8dfe2ce44d7500c1bede6781620fb0b0dcbf3d84acbf0b8cf9ace7c", func := "loop.example/g00130/laws.FnReleases", spec := "fnReleases", recurses := true, apart := false, narrowed := true }
def FnReleasesUptoSaid : Prop := fnReleasesUptoRow.holds Try.pinned (OpenSpec.upto fnReleasesSpec)

end Rows
end Go.Proofs.Ytbdciplhpomakaa
