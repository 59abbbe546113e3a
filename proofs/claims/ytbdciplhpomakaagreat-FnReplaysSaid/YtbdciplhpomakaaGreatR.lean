/- It is proved that the law answers true at every input and leaves its arguments as they were. No conditions. -/
import Derived.Test.YtbdciplhpomakaaGreatM2
import Derived.Test.YtbdciplhpomakaaGreatRows
import Derived.ProofKit
import Derived.SizedLaws
import Derived.OpenShut
import Derived.ChangeAt
import Derived.RowKit
set_option linter.unusedSectionVars false
/- FnReplays: it is proved that the law answers true at every input and leaves its arguments as they were. -/
namespace Go.Proofs.YtbdciplhpomakaaGreat.fnReplays
open Go.ChangeShapes Go.WideShapes Go.ChangeAt Go.RowKit Go.Fw
set_option linter.unusedVariables false
theorem own : ownKnob Tryz.prog.godebug = none := by kernel_rfl
theorem laidOut : laidOutB Tryz.prog = true := by kernel_rfl
set_option maxRecDepth 100000 in
theorem lifted (os : Os) (started : os.Started) (H : Type) (enc : TypeId × Value → H) :
    ReturnsInHanded {} Tryz.checked os 6 .any (Rows.fnReplaysSpec.pre6 enc Tryz.prog Tryz.f6 Rows.fnReplaysRow.domain false) (Rows.fnReplaysSpec.post enc Tryz.prog Tryz.f6 false true false false) := by
  refine returnsInHanded_of_change_sized (C := Tryz.checked) own started (by kernel_rfl) Tryz.func6
    (ChangeSpec.witness6 (enc := enc) (C := Tryz.checked) false ⟨#[], #[.slice none 0 0], []⟩ 8 (by kernel_rfl) (by kernel_rfl) (by kernel_rfl) (by kernel_rfl)) ?_
  intro W base args ds gs before aDy hW aHZ dF _
  have Xt : ∀ (j : Nat) t v, Tryz.f6.params[j]? = some t → args[j]? = some v → Value.okWide Tryz.prog W .any base t v := aDy
  have hW' := hW
  obtain ⟨p, q, hA0, hV, rfl, hfz, Ha⟩ := hW
  obtain ⟨rfl, rfl⟩ := trodVars_none hV
  have hA : DataW.TrodAll enc Tryz.prog W 0 (fun _ => true) true Tryz.f6.params.toList args.toList ds p := hA0
  rw [Tryz.params6] at hA Xt
  obtain ⟨d0, rfl⟩ : ∃ d0, ds = [d0] := by
    obtain ⟨_, _, _, _, _, _, _, rfl, _, _, h⟩ := trodAll_cons hA
    obtain ⟨_, rfl, _⟩ := trodAll_nil h
    exact ⟨_, rfl⟩
  refine (asw (base := base) (ts := [22]) afY rfl (by kernel_rfl) laidOut (fun j t v h1 h2 => Xt j t v (by simpa using h1) h2) hA (fun xs hx => ?_)).mono fun e W' ⟨he, ht, hb⟩ => ?_
  · exact acK (xs) (by have := hx; exact this.1)
  · subst he
    exact ⟨_, rfl, _, _, _, [], _, [], hW', trodAll_mk1 (shut_bool Tryz.underlying4 _), ht, rfl, hb.frame _, fun h => by cases h⟩
theorem c1 : (([Char.ofNat 99, Char.ofNat 117, Char.ofNat 116] : List Char) == "gc".toList) = false := by kernel_rfl
theorem c2 : (([Char.ofNat 99, Char.ofNat 117, Char.ofNat 116] : List Char) == "spec".toList) = false := by kernel_rfl
theorem c3 : (([Char.ofNat 99, Char.ofNat 117, Char.ofNat 116] : List Char) == "cut".toList) = true := by kernel_rfl
theorem c4 : (([Char.ofNat 99, Char.ofNat 117, Char.ofNat 116] : List Char) == "carried".toList) = false := by kernel_rfl
theorem c5 : ((some ([Char.ofNat 99, Char.ofNat 117, Char.ofNat 116] : List Char)) == some "cut".toList) = true := by kernel_rfl
theorem m0 (ws : List (List Char)) : stripLifts liftWords ([Char.ofNat 99, Char.ofNat 117, Char.ofNat 116] :: ws) = ([], [Char.ofNat 99, Char.ofNat 117, Char.ofNat 116] :: ws) := by kernel_rfl
theorem awC (P : Program) (ws : List (List Char)) (h : behindMainWord (wordsSigns P.initOrder.toList) = [Char.ofNat 99, Char.ofNat 117, Char.ofNat 116] :: ws) : P.make = some .cut := by
  unfold Program.make
  rw [h]
  simp only [c1, c2, c3, Bool.or_false, Bool.false_or, Bool.true_or, if_true, Bool.false_eq_true, if_false]
theorem auR (P : Program) (ws : List (List Char)) (h : behindMainWord (wordsSigns P.initOrder.toList) = [Char.ofNat 99, Char.ofNat 117, Char.ofNat 116] :: ws) : P.liftsFinal = false := by
  unfold Program.liftsFinal Program.headLifts
  rw [h]
  simp only [m0]
  rfl
theorem auS (P : Program) (ws : List (List Char)) (h : behindMainWord (wordsSigns P.initOrder.toList) = [Char.ofNat 99, Char.ofNat 117, Char.ofNat 116] :: ws) (b1 : P.laysLater = false) (b2 : P.bearsReflect = false) (b3 : P.doorRows = []) : P.mayEnter = true := by
  unfold Program.mayEnter Program.doorFits
  rw [h]
  simp only [m0, b1, b2, b3, c1, c2, c3, c4, List.head?_cons, c5, List.any_nil, List.contains_nil, List.isEmpty_nil, Bool.or_false, Bool.false_or, Bool.true_or, Bool.not_false, Bool.and_true, Bool.false_and, Bool.true_and, Bool.and_self, Bool.or_true]
def ioL : List Char := [104, 97, 114, 110, 101, 115, 115, 32, 101, 97, 56, 100, 49, 48, 100, 52, 100, 50, 97, 48, 51, 99, 97, 99, 48, 98, 97, 97, 57, 55, 49, 54, 52, 97, 48, 57, 48, 49, 99, 56, 49, 100, 56, 102, 57, 55, 102, 56, 100, 97, 53, 100, 51, 51, 99, 102, 56, 56, 101, 56, 49, 98, 53, 48, 50, 98, 56, 50, 54, 49, 101, 101, 32, 99, 117, 116, 32, 97, 116, 32, 108, 111, 111, 112, 46, 101, 120, 97, 109, 112, 108, 101, 47, 103, 48, 48, 49, 51, 48, 47, 108, 97, 119, 115, 46, 70, 110, 72, 101, 97, 100, 115, 32, 108, 111, 111, 112, 46, 101, 120, 97, 109, 112, 108, 101, 47, 103, 48, 48, 49, 51, 48, 47, 108, 97, 119, 115, 46, 70, 110, 72, 101, 97, 114, 115, 32, 108, 111, 111, 112, 46, 101, 120, 97, 109, 112, 108, 101, 47, 103, 48, 48, 49, 51, 48, 47, 108, 97, 119, 115, 46, 70, 110, 82, 101, 99, 115, 32, 108, 111, 111, 112, 46, 101, 120, 97, 109, 112, 108, 101, 47, 103, 48, 48, 49, 51, 48, 47, 108, 97, 119, 115, 46, 70, 110, 82, 101, 112, 108, 97, 121, 115].map Char.ofNat
theorem io0 : Tryz.prog.initOrder = String.ofList ioL := by kernel_rfl
theorem io1 : Tryz.prog.initOrder.toList = ioL := by rw [io0, String.toList_ofList]
theorem iw : behindMainWord (wordsSigns Tryz.prog.initOrder.toList) = [Char.ofNat 99, Char.ofNat 117, Char.ofNat 116] :: (behindMainWord (wordsSigns ioL)).tail := by rw [io1]; kernel_rfl
theorem b1 : Tryz.prog.laysLater = false := by kernel_rfl
theorem b2 : Tryz.prog.bearsReflect = false := by kernel_rfl
theorem b3 : Tryz.prog.doorRows = [] := by kernel_rfl
theorem gU {a b : Bool} (ha : a = true) (hb : b = true) : (a && b) = true := by rw [ha, hb]; rfl
theorem q0 : (Rows.fnReplaysRow.wf (OpenSpec.ofChange Rows.fnReplaysSpec)) = true := by kernel_rfl
theorem q1 : (laidOutB Tryz.prog) = true := laidOut
theorem q2 : (mapsRowed Tryz.prog) = true := by kernel_rfl
theorem q3 : (Tryz.f6.params.all (Tryz.prog.readableRec ·)) = true := by kernel_rfl
theorem q4 : (namedTie Tryz.prog Rows.fnReplaysRow.named Rows.fnReplaysSpec.vars) = true := by kernel_rfl
theorem q5 : ((Rows.fnReplaysRow.stops == [])) = true := by kernel_rfl
theorem q6 : ((Tryz.prog.stops == [])) = true := by kernel_rfl
theorem q7 : ((Rows.fnReplaysRow.knobs == [])) = true := by kernel_rfl
theorem q8 : ((Tryz.prog.stopKnobs == [])) = true := by kernel_rfl
theorem q9 : ((Rows.fnReplaysRow.inPlace == Tryz.prog.inPlace 6)) = true := by kernel_rfl
theorem q10 : ((Rows.fnReplaysRow.unfollowed == Tryz.prog.unfollowed 6)) = true := by kernel_rfl
theorem q11 : ((Rows.fnReplaysRow.recurses == Tryz.prog.recurses 6)) = true := by kernel_rfl
theorem q12 : ((Rows.fnReplaysRow.named == Tryz.prog.varsNamed 6)) = true := by kernel_rfl
theorem q13 : ((Rows.fnReplaysRow.maps == (Tryz.f6.params.toList ++ Rows.fnReplaysSpec.plain.varTypes Tryz.prog).any (Tryz.prog.mapsRec ·))) = true := by kernel_rfl
theorem q14 : ((Rows.fnReplaysRow.ifaces == (Tryz.f6.params.toList ++ Rows.fnReplaysSpec.plain.varTypes Tryz.prog).any (Tryz.prog.ifacesRec ·))) = true := by kernel_rfl
theorem q15 : ((Rows.fnReplaysRow.mapsOut == Tryz.prog.mapsAmong Tryz.f6.resultTypes.toList)) = true := by kernel_rfl
theorem q16 : ((Rows.fnReplaysRow.loops == (Tryz.f6.params.toList ++ Rows.fnReplaysSpec.plain.varTypes Tryz.prog).any (Tryz.prog.loopsFrom ·))) = true := by kernel_rfl
theorem q17 : ((Rows.fnReplaysRow.wideKeys == (Tryz.f6.params.toList ++ Rows.fnReplaysSpec.plain.varTypes Tryz.prog ++ Tryz.f6.resultTypes.toList).any (Tryz.prog.wideKeysFrom ·))) = true := by kernel_rfl
theorem q18 : (Rows.fnReplaysSpec.vars.all (Tryz.prog.varReadable ·)) = true := by kernel_rfl
theorem q19 : (Tryz.f6.resultTypes.all (fun t => Tryz.prog.readableRec t && decide (t < Tryz.prog.types.size))) = true := by kernel_rfl
theorem q20 : ((Rows.fnReplaysRow.ifacesOut == Tryz.f6.resultTypes.toList.any (Tryz.prog.ifacesRec ·))) = true := by kernel_rfl
theorem q21 : ((Rows.fnReplaysRow.loopsOut == Tryz.f6.resultTypes.toList.any (Tryz.prog.loopsFrom ·))) = true := by kernel_rfl
theorem q22 : ((Rows.fnReplaysRow.plainKeys == Tryz.prog.plainKeys)) = true := by kernel_rfl
theorem q23 : (Rows.fnReplaysRow.shortTexts.isNone) = true := by kernel_rfl
theorem q24 : (Tryz.prog.stopsHeard) = true := by kernel_rfl
theorem q25 : (Tryz.prog.mayEnter) = true := auS _ _ iw b1 b2 b3
theorem q26 : ((Rows.fnReplaysRow.lifted == Tryz.prog.liftsFinal)) = true := by rw [auR _ _ iw]; kernel_rfl
theorem q27 : ((Tryz.prog.make == some Rows.fnReplaysRow.make)) = true := by rw [awC _ _ iw]; kernel_rfl
theorem q28 : ((Rows.fnReplaysRow.kinds == (if Rows.fnReplaysRow.domain.isEmpty then [] else Tryz.f6.params.toList.map fun t => match Tryz.prog.underlying t with | some (.int k) => some k | _ => none))) = true := by kernel_rfl
theorem q29 : ((Rows.fnReplaysRow.pinned == Rows.fnReplaysRow.pinnedBy)) = true := by kernel_rfl
theorem q30 : ((Rows.fnReplaysRow.veiled == (Tryz.f6.params.toList ++ Rows.fnReplaysSpec.plain.varTypes Tryz.prog ++ Tryz.f6.resultTypes.toList).any (Tryz.prog.veiledRec ·))) = true := by kernel_rfl
theorem q31 : (Rows.fnReplaysRow.veiledFits Tryz.prog Tryz.f6.params.toList (Tryz.f6.params.toList ++ Rows.fnReplaysSpec.plain.varTypes Tryz.prog ++ Tryz.f6.resultTypes.toList)) = true := by kernel_rfl
set_option maxRecDepth 100000 in
theorem closed : joinedFacts Tryz.pinned.checked.prog 6 Tryz.f6 Rows.fnReplaysSpec Rows.fnReplaysRow = true := (gU (gU (gU (gU (gU (gU (gU (gU (gU (gU (gU (gU (gU (gU (gU (gU (gU (gU (gU (gU (gU (gU (gU (gU (gU (gU (gU (gU (gU (gU (gU q0 q1) q2) q3) q4) q5) q6) q7) q8) q9) q10) q11) q12) q13) q14) q15) q16) q17) q18) q19) q20) q21) q22) q23) q24) q25) q26) q27) q28) q29) q30) q31)
theorem named : Tryz.pinned.checked.prog.funcNamed Rows.fnReplaysRow.func = some 6 := by kernel_rfl
theorem inst : Tryz.f6.isInstance Tryz.pinned.checked.prog Rows.fnReplaysRow.origin Rows.fnReplaysRow.targs := of_decide_eq_true (by kernel_rfl)
theorem wrap : Tryz.f6.isWrapper Tryz.pinned.checked.prog Rows.fnReplaysRow.wrapper Rows.fnReplaysRow.mainSum := by unfold Func.isWrapper; first | (rw [if_pos (by decide +kernel)]; kernel_rfl) | (rw [if_neg (by decide +kernel)]; exact ⟨rfl, rfl⟩)
theorem over : Rows.fnReplaysRow.holds Tryz.pinned (OpenSpec.ofChange Rows.fnReplaysSpec) :=
  OpenClaim.holds_of_wide 6 Tryz.f6 rfl rfl rfl rfl rfl rfl rfl ⟨rfl, rfl, rfl, rfl, rfl⟩ rfl rfl rfl rfl rfl named Tryz.func6 closed inst wrap
    (fun os started H enc _ => lifted os started H enc)
theorem proved : Rows.FnReplaysSaid := over
end Go.Proofs.YtbdciplhpomakaaGreat.fnReplays
namespace Go.Proofs.YtbdciplhpomakaaGreat
/-- The row. -/
theorem fnReplays_holds : Rows.FnReplaysSaid := fnReplays.proved
#print axioms fnReplays_holds
end Go.Proofs.YtbdciplhpomakaaGreat
