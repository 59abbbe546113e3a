/- It is proved that the law answers true at every input and leaves its arguments as they were. No conditions. -/
import Derived.Test.YtlolhpdimikcdaaGreatM1
import Derived.Test.YtlolhpdimikcdaaGreatRows
import Derived.ProofKit
import Derived.SizedLaws
import Derived.OpenShut
import Derived.ChangeAt
import Derived.RowKit
set_option linter.unusedVariables false
set_option linter.unusedSimpArgs false
set_option linter.unusedSectionVars false
/- FnExactSound: it is proved that the law answers true at every input and leaves its arguments as they were. -/
namespace Go.Proofs.YtlolhpdimikcdaaGreat.fnExactSound
open Go.ChangeShapes Go.WideShapes Go.ChangeAt Go.RowKit Go.Fw
set_option linter.unusedVariables false
theorem own : ownKnob Tryz.prog.godebug = none := by kernel_rfl
theorem laidOut : laidOutB Tryz.prog = true := by kernel_rfl
set_option maxRecDepth 100000 in
theorem lifted (os : Os) (started : os.Started) (H : Type) (enc : TypeId × Value → H) :
    ReturnsInHanded {} Tryz.checked os 3 .any (Rows.fnExactSoundSpec.pre6 enc Tryz.prog Tryz.f3 Rows.fnExactSoundRow.domain false) (Rows.fnExactSoundSpec.post enc Tryz.prog Tryz.f3 false true false false) := by
  refine returnsInHanded_of_change_sized (C := Tryz.checked) own started (by kernel_rfl) Tryz.func3
    (ChangeSpec.witness6 (enc := enc) (C := Tryz.checked) false ⟨#[], #[.agg #[.int .i64 0, .int .i64 0, .slice none 0 0, .slice none 0 0, .slice none 0 0, .slice none 0 0, .int .i64 0, .int .i64 0, .int .i64 0, .int .i64 0, .int .i64 0, .int .i64 0, .int .i64 0, .slice none 0 0, .int .i64 0, .slice none 0 0, .slice none 0 0, .slice none 0 0, .slice none 0 0, .slice none 0 0, .slice none 0 0, .slice none 0 0]], []⟩ 8 (by kernel_rfl) (by kernel_rfl) (by kernel_rfl) (by kernel_rfl)) ?_
  intro W base args ds gs before hval0 hW hcnd hsz _
  have hval : ∀ (j : Nat) t v, Tryz.f3.params[j]? = some t → args[j]? = some v → Value.okWide Tryz.prog W .any base t v := hval0
  have hW' := hW
  obtain ⟨p, q, hA0, hV, rfl, hfz, hnd⟩ := hW
  obtain ⟨rfl, rfl⟩ := trodVars_none hV
  have hA : DataW.TrodAll enc Tryz.prog W 0 (fun _ => true) true Tryz.f3.params.toList args.toList ds p := hA0
  rw [Tryz.params3] at hA hval
  obtain ⟨d0, rfl⟩ : ∃ d0, ds = [d0] := by
    obtain ⟨_, _, _, _, _, _, _, rfl, _, _, h⟩ := trodAll_cons hA
    obtain ⟨_, rfl, _⟩ := trodAll_nil h
    exact ⟨_, rfl⟩
  refine (law_calls (base := base) (ts := [41]) ok_lFnExactSound rfl (by kernel_rfl) laidOut (fun j t v h1 h2 => hval j t v (by simpa using h1) h2) hA (fun xs hx => ?_)).mono fun e W' ⟨he, ht, hb⟩ => ?_
  · exact law_lFnExactSound (xs.1) (xs.2.1) (xs.2.2.1) (xs.2.2.2.1) (xs.2.2.2.2.1) (xs.2.2.2.2.2.1) (xs.2.2.2.2.2.2.1) (xs.2.2.2.2.2.2.2.1) (xs.2.2.2.2.2.2.2.2.1) (xs.2.2.2.2.2.2.2.2.2.1) (xs.2.2.2.2.2.2.2.2.2.2.1) (xs.2.2.2.2.2.2.2.2.2.2.2.1) (xs.2.2.2.2.2.2.2.2.2.2.2.2.1) (xs.2.2.2.2.2.2.2.2.2.2.2.2.2.1) (xs.2.2.2.2.2.2.2.2.2.2.2.2.2.2.1) (xs.2.2.2.2.2.2.2.2.2.2.2.2.2.2.2.1) (xs.2.2.2.2.2.2.2.2.2.2.2.2.2.2.2.2.1) (xs.2.2.2.2.2.2.2.2.2.2.2.2.2.2.2.2.2.1) (xs.2.2.2.2.2.2.2.2.2.2.2.2.2.2.2.2.2.2.1) (xs.2.2.2.2.2.2.2.2.2.2.2.2.2.2.2.2.2.2.2.1) (xs.2.2.2.2.2.2.2.2.2.2.2.2.2.2.2.2.2.2.2.2.1) (xs.2.2.2.2.2.2.2.2.2.2.2.2.2.2.2.2.2.2.2.2.2) (wf64 hx.1) (by have := hx.2.2.1; exact this.1) (by have := hx.2.2.2.1; exact this.1) (by have := hx.2.2.2.2.1; exact ⟨this.1, fun y0 h0 => (this.2 y0 h0).1⟩) (by have := hx.2.2.2.2.2.1; exact this.1) (by have := hx.2.2.2.2.2.2.2.2.2.2.2.2.2.1; exact this.1) (by have := hx.2.2.2.2.2.2.2.2.2.2.2.2.2.2.2.1; exact this.1) (by have := hx.2.2.2.2.2.2.2.2.2.2.2.2.2.2.2.2.1; exact ⟨this.1, fun y0 h0 => ⟨(this.2 y0 h0).2.2.1.1, (this.2 y0 h0).2.2.2.2.2.1.1, (this.2 y0 h0).2.2.2.2.2.2.1⟩⟩) (by have := hx.2.2.2.2.2.2.2.2.2.2.2.2.2.2.2.2.2.1; exact ⟨this.1, fun y0 h0 => ⟨(this.2 y0 h0).1, fun y1 h1 => ⟨((this.2 y0 h0).2 y1 h1).1, ((this.2 y0 h0).2 y1 h1).2.1⟩⟩⟩) (by have := hx.2.2.2.2.2.2.2.2.2.2.2.2.2.2.2.2.2.2.1; exact this.1) (by have := hx.2.2.2.2.2.2.2.2.2.2.2.2.2.2.2.2.2.2.2.1; exact ⟨this.1, fun y0 h0 => (this.2 y0 h0).2.2⟩) (by have := hx.2.2.2.2.2.2.2.2.2.2.2.2.2.2.2.2.2.2.2.2.1; exact this.1) (by have := hx.2.2.2.2.2.2.2.2.2.2.2.2.2.2.2.2.2.2.2.2.2; exact ⟨this.1, fun y0 h0 => ⟨(this.2 y0 h0).2.2.2.2.2.2.2.2.1.1, (this.2 y0 h0).2.2.2.2.2.2.2.2.2.1.1, (this.2 y0 h0).2.2.2.2.2.2.2.2.2.2.2.2.1.1⟩⟩)
  · subst he
    exact ⟨_, rfl, _, _, _, [], _, [], hW', trodAll_mk1 (shut_bool Tryz.underlying4 _), ht, rfl, hb.frame _, fun h => by cases h⟩
theorem c1 : (([Char.ofNat 99, Char.ofNat 117, Char.ofNat 116] : List Char) == "gc".toList) = false := by kernel_rfl
theorem c2 : (([Char.ofNat 99, Char.ofNat 117, Char.ofNat 116] : List Char) == "spec".toList) = false := by kernel_rfl
theorem c3 : (([Char.ofNat 99, Char.ofNat 117, Char.ofNat 116] : List Char) == "cut".toList) = true := by kernel_rfl
theorem c4 : (([Char.ofNat 99, Char.ofNat 117, Char.ofNat 116] : List Char) == "carried".toList) = false := by kernel_rfl
theorem c5 : ((some ([Char.ofNat 99, Char.ofNat 117, Char.ofNat 116] : List Char)) == some "cut".toList) = true := by kernel_rfl
theorem m0 (ws : List (List Char)) : stripLifts liftWords ([Char.ofNat 99, Char.ofNat 117, Char.ofNat 116] :: ws) = ([], [Char.ofNat 99, Char.ofNat 117, Char.ofNat 116] :: ws) := by kernel_rfl
theorem make_cut (P : Program) (ws : List (List Char)) (h : behindMainWord (wordsSigns P.initOrder.toList) = [Char.ofNat 99, Char.ofNat 117, Char.ofNat 116] :: ws) : P.make = some .cut := by
  unfold Program.make
  rw [h]
  simp only [c1, c2, c3, Bool.or_false, Bool.false_or, Bool.true_or, if_true, Bool.false_eq_true, if_false]
theorem lifts_cut (P : Program) (ws : List (List Char)) (h : behindMainWord (wordsSigns P.initOrder.toList) = [Char.ofNat 99, Char.ofNat 117, Char.ofNat 116] :: ws) : P.liftsFinal = false := by
  unfold Program.liftsFinal Program.headLifts
  rw [h]
  simp only [m0]
  rfl
theorem enter_cut (P : Program) (ws : List (List Char)) (h : behindMainWord (wordsSigns P.initOrder.toList) = [Char.ofNat 99, Char.ofNat 117, Char.ofNat 116] :: ws) (b1 : P.laysLater = false) (b2 : P.bearsReflect = false) (b3 : P.doorRows = []) : P.mayEnter = true := by
  unfold Program.mayEnter Program.doorFits
  rw [h]
  simp only [m0, b1, b2, b3, c1, c2, c3, c4, List.head?_cons, c5, List.any_nil, List.contains_nil, List.isEmpty_nil, Bool.or_false, Bool.false_or, Bool.true_or, Bool.not_false, Bool.and_true, Bool.false_and, Bool.true_and, Bool.and_self, Bool.or_true]
def ioL : List Char := [104, 97, 114, 110, 101, 115, 115, 32, 100, 97, 55, 51, 51, 50, 99, 56, 99, 55, 102, 49, 51, 99, 98, 99, 55, 102, 57, 97, 52, 57, 48, 56, 50, 55, 98, 56, 98, 49, 97, 48, 52, 55, 49, 51, 52, 99, 101, 50, 98, 54, 100, 52, 55, 97, 48, 51, 51, 99, 51, 100, 54, 48, 51, 54, 102, 102, 48, 99, 53, 102, 56, 48, 32, 99, 117, 116, 32, 97, 116, 32, 108, 111, 111, 112, 46, 101, 120, 97, 109, 112, 108, 101, 47, 103, 48, 48, 49, 51, 48, 47, 108, 97, 119, 115, 46, 70, 110, 69, 120, 97, 99, 116, 83, 111, 117, 110, 100].map Char.ofNat
theorem io0 : Tryz.prog.initOrder = String.ofList ioL := by kernel_rfl
theorem io1 : Tryz.prog.initOrder.toList = ioL := by rw [io0, String.toList_ofList]
theorem iw : behindMainWord (wordsSigns Tryz.prog.initOrder.toList) = [Char.ofNat 99, Char.ofNat 117, Char.ofNat 116] :: (behindMainWord (wordsSigns ioL)).tail := by rw [io1]; kernel_rfl
theorem b1 : Tryz.prog.laysLater = false := by kernel_rfl
theorem b2 : Tryz.prog.bearsReflect = false := by kernel_rfl
theorem b3 : Tryz.prog.doorRows = [] := by kernel_rfl
theorem and_t {a b : Bool} (ha : a = true) (hb : b = true) : (a && b) = true := by rw [ha, hb]; rfl
theorem q0 : (Rows.fnExactSoundRow.wf (OpenSpec.ofChange Rows.fnExactSoundSpec)) = true := by kernel_rfl
theorem q1 : (laidOutB Tryz.prog) = true := laidOut
theorem q2 : (mapsRowed Tryz.prog) = true := by kernel_rfl
theorem q3 : (Tryz.f3.params.all (Tryz.prog.readableRec ·)) = true := by kernel_rfl
theorem q4 : (namedTie Tryz.prog Rows.fnExactSoundRow.named Rows.fnExactSoundSpec.vars) = true := by kernel_rfl
theorem q5 : ((Rows.fnExactSoundRow.stops == [])) = true := by kernel_rfl
theorem q6 : ((Tryz.prog.stops == [])) = true := by kernel_rfl
theorem q7 : ((Rows.fnExactSoundRow.knobs == [])) = true := by kernel_rfl
theorem q8 : ((Tryz.prog.stopKnobs == [])) = true := by kernel_rfl
theorem q9 : ((Rows.fnExactSoundRow.inPlace == Tryz.prog.inPlace 3)) = true := by kernel_rfl
theorem q10 : ((Rows.fnExactSoundRow.unfollowed == Tryz.prog.unfollowed 3)) = true := by kernel_rfl
theorem q11 : ((Rows.fnExactSoundRow.recurses == Tryz.prog.recurses 3)) = true := by kernel_rfl
theorem q12 : ((Rows.fnExactSoundRow.named == Tryz.prog.varsNamed 3)) = true := by kernel_rfl
theorem q13 : ((Rows.fnExactSoundRow.maps == (Tryz.f3.params.toList ++ Rows.fnExactSoundSpec.plain.varTypes Tryz.prog).any (Tryz.prog.mapsRec ·))) = true := by kernel_rfl
theorem q14 : ((Rows.fnExactSoundRow.ifaces == (Tryz.f3.params.toList ++ Rows.fnExactSoundSpec.plain.varTypes Tryz.prog).any (Tryz.prog.ifacesRec ·))) = true := by kernel_rfl
theorem q15 : ((Rows.fnExactSoundRow.mapsOut == Tryz.prog.mapsAmong Tryz.f3.resultTypes.toList)) = true := by kernel_rfl
theorem q16 : ((Rows.fnExactSoundRow.loops == (Tryz.f3.params.toList ++ Rows.fnExactSoundSpec.plain.varTypes Tryz.prog).any (Tryz.prog.loopsFrom ·))) = true := by kernel_rfl
theorem q17 : ((Rows.fnExactSoundRow.wideKeys == (Tryz.f3.params.toList ++ Rows.fnExactSoundSpec.plain.varTypes Tryz.prog ++ Tryz.f3.resultTypes.toList).any (Tryz.prog.wideKeysFrom ·))) = true := by kernel_rfl
theorem q18 : (Rows.fnExactSoundSpec.vars.all (Tryz.prog.varReadable ·)) = true := by kernel_rfl
theorem q19 : (Tryz.f3.resultTypes.all (fun t => Tryz.prog.readableRec t && decide (t < Tryz.prog.types.size))) = true := by kernel_rfl
theorem q20 : ((Rows.fnExactSoundRow.ifacesOut == Tryz.f3.resultTypes.toList.any (Tryz.prog.ifacesRec ·))) = true := by kernel_rfl
theorem q21 : ((Rows.fnExactSoundRow.loopsOut == Tryz.f3.resultTypes.toList.any (Tryz.prog.loopsFrom ·))) = true := by kernel_rfl
theorem q22 : ((Rows.fnExactSoundRow.plainKeys == Tryz.prog.plainKeys)) = true := by kernel_rfl
theorem q23 : (Rows.fnExactSoundRow.shortTexts.isNone) = true := by kernel_rfl
theorem q24 : (Tryz.prog.stopsHeard) = true := by kernel_rfl
theorem q25 : (Tryz.prog.mayEnter) = true := enter_cut _ _ iw b1 b2 b3
theorem q26 : ((Rows.fnExactSoundRow.lifted == Tryz.prog.liftsFinal)) = true := by rw [lifts_cut _ _ iw]; kernel_rfl
theorem q27 : ((Tryz.prog.make == some Rows.fnExactSoundRow.make)) = true := by rw [make_cut _ _ iw]; kernel_rfl
theorem q28 : ((Rows.fnExactSoundRow.kinds == (if Rows.fnExactSoundRow.domain.isEmpty then [] else Tryz.f3.params.toList.map fun t => match Tryz.prog.underlying t with | some (.int k) => some k | _ => none))) = true := by kernel_rfl
theorem q29 : ((Rows.fnExactSoundRow.pinned == Rows.fnExactSoundRow.pinnedBy)) = true := by kernel_rfl
theorem q30 : ((Rows.fnExactSoundRow.veiled == (Tryz.f3.params.toList ++ Rows.fnExactSoundSpec.plain.varTypes Tryz.prog ++ Tryz.f3.resultTypes.toList).any (Tryz.prog.veiledRec ·))) = true := by kernel_rfl
theorem q31 : (Rows.fnExactSoundRow.veiledFits Tryz.prog Tryz.f3.params.toList (Tryz.f3.params.toList ++ Rows.fnExactSoundSpec.plain.varTypes Tryz.prog ++ Tryz.f3.resultTypes.toList)) = true := by kernel_rfl
set_option maxRecDepth 100000 in
theorem closed : joinedFacts Tryz.pinned.checked.prog 3 Tryz.f3 Rows.fnExactSoundSpec Rows.fnExactSoundRow = true := (and_t (and_t (and_t (and_t (and_t (and_t (and_t (and_t (and_t (and_t (and_t (and_t (and_t (and_t (and_t (and_t (and_t (and_t (and_t (and_t (and_t (and_t (and_t (and_t (and_t (and_t (and_t (and_t (and_t (and_t (and_t q0 q1) q2) q3) q4) q5) q6) q7) q8) q9) q10) q11) q12) q13) q14) q15) q16) q17) q18) q19) q20) q21) q22) q23) q24) q25) q26) q27) q28) q29) q30) q31)
theorem named : Tryz.pinned.checked.prog.funcNamed Rows.fnExactSoundRow.func = some 3 := by kernel_rfl
theorem inst : Tryz.f3.isInstance Tryz.pinned.checked.prog Rows.fnExactSoundRow.origin Rows.fnExactSoundRow.targs := of_decide_eq_true (by kernel_rfl)
theorem wrap : Tryz.f3.isWrapper Tryz.pinned.checked.prog Rows.fnExactSoundRow.wrapper Rows.fnExactSoundRow.mainSum := by unfold Func.isWrapper; first | (rw [if_pos (by decide +kernel)]; kernel_rfl) | (rw [if_neg (by decide +kernel)]; exact ⟨rfl, rfl⟩)
theorem over : Rows.fnExactSoundRow.holds Tryz.pinned (OpenSpec.ofChange Rows.fnExactSoundSpec) :=
  OpenClaim.holds_of_wide 3 Tryz.f3 rfl rfl rfl rfl rfl rfl rfl ⟨rfl, rfl, rfl, rfl, rfl⟩ rfl rfl rfl rfl rfl named Tryz.func3 closed inst wrap
    (fun os started H enc _ => lifted os started H enc)
theorem proved : Rows.FnExactSoundSaid := over
end Go.Proofs.YtlolhpdimikcdaaGreat.fnExactSound
namespace Go.Proofs.YtlolhpdimikcdaaGreat
/-- The row. -/
theorem fnExactSound_holds : Rows.FnExactSoundSaid := fnExactSound.proved
#print axioms fnExactSound_holds
end Go.Proofs.YtlolhpdimikcdaaGreat
