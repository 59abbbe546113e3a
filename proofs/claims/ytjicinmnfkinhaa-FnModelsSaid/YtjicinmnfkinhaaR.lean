/- It is proved that the law answers true at every input and leaves its arguments as they were. No conditions. -/
import Derived.Test.YtjicinmnfkinhaaM0
import Derived.Test.YtjicinmnfkinhaaRows
import Derived.ProofKit
import Derived.SizedLaws
import Derived.OpenShut
import Derived.ChangeAt
import Derived.RowKit
set_option linter.unusedVariables false
set_option linter.unusedSimpArgs false
set_option linter.unusedSectionVars false
/- FnModels: it is proved that the law answers true at every input and leaves its arguments as they were. -/
namespace Go.Proofs.Ytjicinmnfkinhaa.fnModels
open Go.ChangeShapes Go.WideShapes Go.ChangeAt Go.RowKit Go.Fw
set_option linter.unusedVariables false
theorem own : ownKnob Try.prog.godebug = none := by kernel_rfl
theorem laidOut : laidOutB Try.prog = true := by kernel_rfl
set_option maxRecDepth 100000 in
theorem lifted (os : Os) (started : os.Started) (H : Type) (enc : TypeId × Value → H) :
    ReturnsInHanded {} Try.checked os 3 .any (Rows.fnModelsSpec.pre6 enc Try.prog Try.f3 Rows.fnModelsRow.domain false) (Rows.fnModelsSpec.post enc Try.prog Try.f3 false true false false) := by
  refine returnsInHanded_of_change_sized (C := Try.checked) own started (by kernel_rfl) Try.func3
    (ChangeSpec.witness6 (enc := enc) (C := Try.checked) false ⟨#[], #[.slice none 0 0], []⟩ 8 (by kernel_rfl) (by kernel_rfl) (by kernel_rfl) (by kernel_rfl)) ?_
  intro W base args ds gs before hval0 hW hcnd hsz _
  have hval : ∀ (j : Nat) t v, Try.f3.params[j]? = some t → args[j]? = some v → Value.okWide Try.prog W .any base t v := hval0
  have hW' := hW
  obtain ⟨p, q, hA0, hV, rfl, hfz, hnd⟩ := hW
  obtain ⟨rfl, rfl⟩ := trodVars_none hV
  have hA : DataW.TrodAll enc Try.prog W 0 (fun _ => true) true Try.f3.params.toList args.toList ds p := hA0
  rw [Try.params3] at hA hval
  obtain ⟨d0, rfl⟩ : ∃ d0, ds = [d0] := by
    obtain ⟨_, _, _, _, _, _, _, rfl, _, _, h⟩ := trodAll_cons hA
    obtain ⟨_, rfl, _⟩ := trodAll_nil h
    exact ⟨_, rfl⟩
  refine (law_calls (base := base) (ts := [22]) ok_lFnModels rfl (by kernel_rfl) laidOut (fun j t v h1 h2 => hval j t v (by simpa using h1) h2) hA (fun xs hx => ?_)).mono fun e W' ⟨he, ht, hb⟩ => ?_
  · exact law_lFnModels (xs) (by have := hx; exact this.1)
  · subst he
    exact ⟨_, rfl, _, _, _, [], _, [], hW', trodAll_mk1 (shut_bool Try.underlying4 _), ht, rfl, hb.frame _, fun h => by cases h⟩
theorem c1 : (([Char.ofNat 99, Char.ofNat 117, Char.ofNat 116] : List Char) == "gc".toList) = false := by kernel_rfl
theorem c2 : (([Char.ofNat 99, Char.ofNat 117, Char.ofNat 116] : List Char) == "spec".toList) = false := by kernel_rfl
theorem c3 : (([Char.ofNat 99, Char.ofNat 117, Char.ofNat 116] : List Char) == "cut".toList) = true := by kernel_rfl
theorem c4 : (([Char.ofNat 99, Char.ofNat 117, Char.ofNat 116] : List Char) == "carried".toList) = false := by kernel_rfl
theorem c5 : ((some ([Char.ofNat 99, Char.ofNat 117, Char.ofNat 116] : List Char)) == some "cut".toList) = true := by kernel_rfl
theorem m0 (ws : List (List Char)) : stripLifts liftWords ([Char.ofNat 99, Char.ofNat 117, Char.ofNat 116] :: ws) = ([], [Char.ofNat 99, Char.ofNat 117, Char.ofNat 116] :: ws) := by kernel_rfl
theorem make_cut (P : Program) (ws : List (List Char)) (h : behindMainWord (wordsSigns P.initOrder.toList) = [Char.ofNat 99, Char.ofNat 117, Char.ofNat 116] :: ws) : P.make = some .cut := by
  unfold Program.make
  rw [h]
  simp only [c1, c2, c3, Bool.or_false, Bool.false_or, Bool.true_or, if_true, Bool.false_eq_true, if_false]
theorem lifts_cut (P : Program) (ws : List (List Char)) (h : behindMainWord (wordsSigns P.initOrder.toList) = [Char.ofNat 99, Char.ofNat 117, Char.ofNat 116] :: ws) : P.liftsFinal = false := by
  unfold Program.liftsFinal Program.headLifts
  rw [h]
  simp only [m0]
  rfl
theorem enter_cut (P : Program) (ws : List (List Char)) (h : behindMainWord (wordsSigns P.initOrder.toList) = [Char.ofNat 99, Char.ofNat 117, Char.ofNat 116] :: ws) (b1 : P.laysLater = false) (b2 : P.bearsReflect = false) (b3 : P.doorRows = []) : P.mayEnter = true := by
  unfold Program.mayEnter Program.doorFits
  rw [h]
  simp only [m0, b1, b2, b3, c1, c2, c3, c4, List.head?_cons, c5, List.any_nil, List.contains_nil, List.isEmpty_nil, Bool.or_false, Bool.false_or, Bool.true_or, Bool.not_false, Bool.and_true, Bool.false_and, Bool.true_and, Bool.and_self, Bool.or_true]
def ioL : List Char := [104, 97, 114, 110, 101, 115, 115, 32, 98, 50, 53, 55, 98, 53, 53, 101, 99, 49, 48, 57, 57, 50, 98, 53, 51, 102, 50, 97, 55, 53, 99, 53, 55, 50, 56, 51, 49, 98, 102, 48, 48, 49, 52, 53, 57, 51, 51, 50, 53, 97, 99, 49, 50, 53, 57, 54, 50, 98, 53, 50, 57, 56, 51, 53, 98, 101, 53, 53, 101, 99, 53, 57, 32, 99, 117, 116, 32, 97, 116, 32, 108, 111, 111, 112, 46, 101, 120, 97, 109, 112, 108, 101, 47, 103, 48, 48, 49, 51, 48, 47, 108, 97, 119, 115, 46, 70, 110, 77, 111, 100, 101, 108, 115, 32, 108, 111, 111, 112, 46, 101, 120, 97, 109, 112, 108, 101, 47, 103, 48, 48, 49, 51, 48, 47, 108, 97, 119, 115, 46, 70, 110, 70, 111, 114, 101, 115, 116, 115].map Char.ofNat
theorem io0 : Try.prog.initOrder = String.ofList ioL := by kernel_rfl
theorem io1 : Try.prog.initOrder.toList = ioL := by rw [io0, String.toList_ofList]
theorem iw : behindMainWord (wordsSigns Try.prog.initOrder.toList) = [Char.ofNat 99, Char.ofNat 117, Char.ofNat 116] :: (behindMainWord (wordsSigns ioL)).tail := by rw [io1]; kernel_rfl
theorem b1 : Try.prog.laysLater = false := by kernel_rfl
theorem b2 : Try.prog.bearsReflect = false := by kernel_rfl
theorem b3 : Try.prog.doorRows = [] := by kernel_rfl
theorem and_t {a b : Bool} (ha : a = true) (hb : b = true) : (a && b) = true := by rw [ha, hb]; rfl
theorem q0 : (Rows.fnModelsRow.wf (OpenSpec.ofChange Rows.fnModelsSpec)) = true := by kernel_rfl
theorem q1 : (laidOutB Try.prog) = true := laidOut
theorem q2 : (mapsRowed Try.prog) = true := by kernel_rfl
theorem q3 : (Try.f3.params.all (Try.prog.readableRec ·)) = true := by kernel_rfl
theorem q4 : (namedTie Try.prog Rows.fnModelsRow.named Rows.fnModelsSpec.vars) = true := by kernel_rfl
theorem q5 : ((Rows.fnModelsRow.stops == [])) = true := by kernel_rfl
theorem q6 : ((Try.prog.stops == [])) = true := by kernel_rfl
theorem q7 : ((Rows.fnModelsRow.knobs == [])) = true := by kernel_rfl
theorem q8 : ((Try.prog.stopKnobs == [])) = true := by kernel_rfl
theorem q9 : ((Rows.fnModelsRow.inPlace == Try.prog.inPlace 3)) = true := by kernel_rfl
theorem q10 : ((Rows.fnModelsRow.unfollowed == Try.prog.unfollowed 3)) = true := by kernel_rfl
theorem q11 : ((Rows.fnModelsRow.recurses == Try.prog.recurses 3)) = true := by kernel_rfl
theorem q12 : ((Rows.fnModelsRow.named == Try.prog.varsNamed 3)) = true := by kernel_rfl
theorem q13 : ((Rows.fnModelsRow.maps == (Try.f3.params.toList ++ Rows.fnModelsSpec.plain.varTypes Try.prog).any (Try.prog.mapsRec ·))) = true := by kernel_rfl
theorem q14 : ((Rows.fnModelsRow.ifaces == (Try.f3.params.toList ++ Rows.fnModelsSpec.plain.varTypes Try.prog).any (Try.prog.ifacesRec ·))) = true := by kernel_rfl
theorem q15 : ((Rows.fnModelsRow.mapsOut == Try.prog.mapsAmong Try.f3.resultTypes.toList)) = true := by kernel_rfl
theorem q16 : ((Rows.fnModelsRow.loops == (Try.f3.params.toList ++ Rows.fnModelsSpec.plain.varTypes Try.prog).any (Try.prog.loopsFrom ·))) = true := by kernel_rfl
theorem q17 : ((Rows.fnModelsRow.wideKeys == (Try.f3.params.toList ++ Rows.fnModelsSpec.plain.varTypes Try.prog ++ Try.f3.resultTypes.toList).any (Try.prog.wideKeysFrom ·))) = true := by kernel_rfl
theorem q18 : (Rows.fnModelsSpec.vars.all (Try.prog.varReadable ·)) = true := by kernel_rfl
theorem q19 : (Try.f3.resultTypes.all (fun t => Try.prog.readableRec t && decide (t < Try.prog.types.size))) = true := by kernel_rfl
theorem q20 : ((Rows.fnModelsRow.ifacesOut == Try.f3.resultTypes.toList.any (Try.prog.ifacesRec ·))) = true := by kernel_rfl
theorem q21 : ((Rows.fnModelsRow.loopsOut == Try.f3.resultTypes.toList.any (Try.prog.loopsFrom ·))) = true := by kernel_rfl
theorem q22 : ((Rows.fnModelsRow.plainKeys == Try.prog.plainKeys)) = true := by kernel_rfl
theorem q23 : (Rows.fnModelsRow.shortTexts.isNone) = true := by kernel_rfl
theorem q24 : (Try.prog.stopsHeard) = true := by kernel_rfl
theorem q25 : (Try.prog.mayEnter) = true := enter_cut _ _ iw b1 b2 b3
theorem q26 : ((Rows.fnModelsRow.lifted == Try.prog.liftsFinal)) = true := by rw [lifts_cut _ _ iw]; kernel_rfl
theorem q27 : ((Try.prog.make == some Rows.fnModelsRow.make)) = true := by rw [make_cut _ _ iw]; kernel_rfl
theorem q28 : ((Rows.fnModelsRow.kinds == (if Rows.fnModelsRow.domain.isEmpty then [] else Try.f3.params.toList.map fun t => match Try.prog.underlying t with | some (.int k) => some k | _ => none))) = true := by kernel_rfl
theorem q29 : ((Rows.fnModelsRow.pinned == Rows.fnModelsRow.pinnedBy)) = true := by kernel_rfl
theorem q30 : ((Rows.fnModelsRow.veiled == (Try.f3.params.toList ++ Rows.fnModelsSpec.plain.varTypes Try.prog ++ Try.f3.resultTypes.toList).any (Try.prog.veiledRec ·))) = true := by kernel_rfl
theorem q31 : (Rows.fnModelsRow.veiledFits Try.prog Try.f3.params.toList (Try.f3.params.toList ++ Rows.fnModelsSpec.plain.varTypes Try.prog ++ Try.f3.resultTypes.toList)) = true := by kernel_rfl
set_option maxRecDepth 100000 in
theorem closed : joinedFacts Try.pinned.checked.prog 3 Try.f3 Rows.fnModelsSpec Rows.fnModelsRow = true := (and_t (and_t (and_t (and_t (and_t (and_t (and_t (and_t (and_t (and_t (and_t (and_t (and_t (and_t (and_t (and_t (and_t (and_t (and_t (and_t (and_t (and_t (and_t (and_t (and_t (and_t (and_t (and_t (and_t (and_t (and_t q0 q1) q2) q3) q4) q5) q6) q7) q8) q9) q10) q11) q12) q13) q14) q15) q16) q17) q18) q19) q20) q21) q22) q23) q24) q25) q26) q27) q28) q29) q30) q31)
theorem named : Try.pinned.checked.prog.funcNamed Rows.fnModelsRow.func = some 3 := by kernel_rfl
theorem inst : Try.f3.isInstance Try.pinned.checked.prog Rows.fnModelsRow.origin Rows.fnModelsRow.targs := of_decide_eq_true (by kernel_rfl)
theorem wrap : Try.f3.isWrapper Try.pinned.checked.prog Rows.fnModelsRow.wrapper Rows.fnModelsRow.mainSum := by unfold Func.isWrapper; first | (rw [if_pos (by decide +kernel)]; kernel_rfl) | (rw [if_neg (by decide +kernel)]; exact ⟨rfl, rfl⟩)
theorem over : Rows.fnModelsRow.holds Try.pinned (OpenSpec.ofChange Rows.fnModelsSpec) :=
  OpenClaim.holds_of_wide 3 Try.f3 rfl rfl rfl rfl rfl rfl rfl ⟨rfl, rfl, rfl, rfl, rfl⟩ rfl rfl rfl rfl rfl named Try.func3 closed inst wrap
    (fun os started H enc _ => lifted os started H enc)
theorem proved : Rows.FnModelsSaid := over
end Go.Proofs.Ytjicinmnfkinhaa.fnModels
namespace Go.Proofs.Ytjicinmnfkinhaa
/-- The row. -/
theorem fnModels_holds : Rows.FnModelsSaid := fnModels.proved
#print axioms fnModels_holds
end Go.Proofs.Ytjicinmnfkinhaa
