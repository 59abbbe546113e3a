/- It is proved that the law answers true at every input and leaves its arguments as they were. No conditions. -/
import Derived.Test.YtaanmomgjgoieaaG6
import Derived.Test.YtaanmomgjgoieaaRows
import Derived.ProofKit
import Derived.SizedLaws
import Derived.OpenShut
import Derived.ChangeAt
import Derived.RowKit
set_option linter.unusedVariables false
set_option linter.unusedSimpArgs false
/- FnGraphs: it is proved that the law answers true at every input and leaves its arguments as they were. -/
namespace Go.Proofs.Ytaanmomgjgoieaa.fnGraphs
open Go.ChangeShapes Go.WideShapes Go.ChangeAt Go.RowKit Go.Fw
set_option linter.unusedVariables false
theorem own : ownKnob Try.prog.godebug = none := by kernel_rfl
theorem laidOut : laidOutB Try.prog = true := by kernel_rfl
set_option maxRecDepth 100000 in
theorem lifted (os : Os) (started : os.Started) (H : Type) (enc : TypeId × Value → H) :
    ReturnsInHanded {} Try.checked os 6 .any (Rows.fnGraphsSpec.pre6 enc Try.prog Try.f6 Rows.fnGraphsRow.domain false) (Rows.fnGraphsSpec.post enc Try.prog Try.f6 false true false false) := by
  refine returnsInHanded_of_change_sized (C := Try.checked) own started (by kernel_rfl) Try.func6
    (ChangeSpec.witness6 (enc := enc) (C := Try.checked) false ⟨#[], #[.slice none 0 0], []⟩ 8 (by kernel_rfl) (by kernel_rfl) (by kernel_rfl) (by kernel_rfl)) ?_
  intro W base args ds gs before hval0 hW hcnd hsz _
  have hval : ∀ (j : Nat) t v, Try.f6.params[j]? = some t → args[j]? = some v → Value.okWide Try.prog W .any base t v := hval0
  have hW' := hW
  obtain ⟨p, q, hA0, hV, rfl, hfz, hnd⟩ := hW
  obtain ⟨rfl, rfl⟩ := trodVars_none hV
  have hA : DataW.TrodAll enc Try.prog W 0 (fun _ => true) true Try.f6.params.toList args.toList ds p := hA0
  rw [Try.params6] at hA hval
  obtain ⟨d0, rfl⟩ : ∃ d0, ds = [d0] := by
    obtain ⟨_, _, _, _, _, _, _, rfl, _, _, h⟩ := trodAll_cons hA
    obtain ⟨_, rfl, _⟩ := trodAll_nil h
    exact ⟨_, rfl⟩
  refine (law_calls (base := base) (ts := [35]) ok6 rfl (by kernel_rfl) laidOut (fun j t v h1 h2 => hval j t v (by simpa using h1) h2) hA (fun xs hx => ?_)).mono fun e W' ⟨he, ht, hb⟩ => ?_
  · exact law6 xs
  · subst he
    exact ⟨_, rfl, _, _, _, [], _, [], hW', trodAll_mk1 (shut_bool Try.underlying4 _), ht, rfl, hb.frame _, fun h => by cases h⟩
theorem over : Rows.fnGraphsRow.holds Try.pinned (OpenSpec.ofChange Rows.fnGraphsSpec) :=
  OpenClaim.holds_of_wide 6 Try.f6 rfl rfl rfl rfl rfl rfl rfl ⟨rfl, rfl, rfl, rfl, rfl⟩ rfl rfl rfl rfl rfl (by kernel_rfl) Try.func6 (by kernel_rfl)
    (of_decide_eq_true (by kernel_rfl)) (by unfold Func.isWrapper; first | (rw [if_pos (by decide +kernel)]; kernel_rfl) | (rw [if_neg (by decide +kernel)]; exact ⟨rfl, rfl⟩))
    (fun os started H enc _ => lifted os started H enc)
theorem proved : Rows.FnGraphsSaid := over
end Go.Proofs.Ytaanmomgjgoieaa.fnGraphs
namespace Go.Proofs.Ytaanmomgjgoieaa
/-- The row. -/
theorem fnGraphs_holds : Rows.FnGraphsSaid := fnGraphs.proved
#print axioms fnGraphs_holds
end Go.Proofs.Ytaanmomgjgoieaa
