/- What the given functions come to. No conditions. -/
import Derived.Test.YtojipknoidbbgaaM0
set_option linter.unusedVariables false
set_option linter.unusedSimpArgs false
namespace Go.Fw
theorem rdR_end (n : Int) (T : List UInt8) : ∃ e : Nat, (rdR n T).2 = (e : Int) ∧ e ≤ T.length := by
  unfold rdR
  split
  · exact ⟨_, rfl, by have := frLen_sum n T T.length 0 (by omega) (by omega); omega⟩
  · exact ⟨0, rfl, by omega⟩
theorem w_MendActs (d : List Fl) (n : Int) (hl : d.length ≤ 1048576) : ∃ r : List Act' × Bool, g_iMendActs (d, n) = some (r, ()) ∧ g_sMendActs (d, n) = some (r, ()) ∧ r.1.length ≤ 4 := by
  have hi : g_iMendActs (d, n) = f_iMendActs BIG (d, n) := rfl
  have hs : g_sMendActs (d, n) = f_sMendActs BIG (d, n) := rfl
  rw [hi, hs, e_iMendActs, e_sMendActs, w_iDiskOk d hl, w_sDiskOk d hl, w_iFileAt d _ hl, w_sFileAt d _ hl, w_ifileAt d _ hl, w_sl03At d _ hl]
  cases hd : dkB d with
  | false => exact ⟨_, rfl, rfl, by simp⟩
  | true =>
    simp only [Option.bind_some, Bool.not_true, cond_false]
    generalize hT : fT d (ByteArray.mk #[108, 111, 103]) = t
    have e1 : g_iReadRecs (n, t.1) = some (rdR n t.1.data.toList, ()) := by
      have := w_iReadRecs n t.1.data.toList
      rwa [BA_data] at this
    have e2 : g_sReadRecs (n, t.1) = some (rdR n t.1.data.toList, ()) := by
      have := w_sReadRecs n t.1.data.toList
      rwa [BA_data] at this
    rw [e1, e2]
    obtain ⟨e, he, hle⟩ := rdR_end n t.1.data.toList
    have hsz : t.1.data.toList.length = t.1.size := by rw [← BA_size, BA_data]
    simp only [Option.bind_some, he]
    have fin : ∀ x : List Act', x.length ≤ 1 → ∃ r : List Act' × Bool, (bif decide ((e : Int) = (t.1.size : Int)) then
   some ((x, true), ())
  else bif decide (0 ≤ (e : Int) ∧ (e : Int) ≤ t.1.size) then
   bif decide (x.length + ([((1 : Int), (ByteArray.mk #[108, 111, 103, 43]), t.1.extract 0 (Int.toNat (e : Int)), ByteArray.empty), ((2 : Int), (ByteArray.mk #[108, 111, 103, 43]), ByteArray.empty, ByteArray.empty), ((3 : Int), (ByteArray.mk #[108, 111, 103, 43]), ByteArray.empty, (ByteArray.mk #[108, 111, 103]))]).length ≤ 4294967296) then
    some ((x ++ ([((1 : Int), (ByteArray.mk #[108, 111, 103, 43]), t.1.extract 0 (Int.toNat (e : Int)), ByteArray.empty), ((2 : Int), (ByteArray.mk #[108, 111, 103, 43]), ByteArray.empty, ByteArray.empty), ((3 : Int), (ByteArray.mk #[108, 111, 103, 43]), ByteArray.empty, (ByteArray.mk #[108, 111, 103]))]), true), ())
   else none
  else none : Option ((List Act' × Bool) × Unit)) = some (r, ()) ∧ r.1.length ≤ 4 := by
      intro x hx2
      by_cases hw : (e : Int) = (t.1.size : Int)
      · rw [decide_eq_true hw]
        exact ⟨_, rfl, by simp only; omega⟩
      · rw [decide_eq_false hw, decide_eq_true (show (0 : Int) ≤ (e : Int) ∧ (e : Int) ≤ (t.1.size : Int) from by omega), decide_eq_true (by simp only [List.length_cons, List.length_nil]; omega)]
        exact ⟨_, rfl, by simp only [List.length_append, List.length_cons, List.length_nil]; omega⟩
    cases decide ((0 : Int) ≤ fI d (ByteArray.mk #[108, 111, 103, 43])) with
    | false =>
      obtain ⟨r, h1, h2⟩ := fin [] (by simp)
      exact ⟨r, h1, h1, h2⟩
    | true =>
      obtain ⟨r, h1, h2⟩ := fin [((4 : Int), (ByteArray.mk #[108, 111, 103, 43]), ByteArray.empty, ByteArray.empty)] (by simp)
      exact ⟨r, h1, h1, h2⟩
theorem law_lFnExactMendActs (d : List Fl) (n : Int) (hd : d.length ≤ maxLen ∧ ∀ y, y ∈ d → y.1.size ≤ maxLen ∧ y.2.1.size ≤ maxLen) : g_lFnExactMendActs (d, n) = some (true, ()) := by
  show f_lFnExactMendActs BIG _ = _
  rw [e_lFnExactMendActs, sz_Disk d _ (by decide) (by decide) hd]
  by_cases hz : ((zFS d : Nat) : Int) ≤ 1048576
  case neg => rw [if_neg hz]; rfl
  rw [if_pos hz, Option.bind_some, decide_eq_false (show ¬ (1048576 : Int) - ((zFS d : Nat) : Int) < 0 from by omega), cond_false]
  have hd1 : d.length ≤ 1048576 := by
    have : d.length ≤ zFS d := Nat.le_add_right _ _
    omega
  obtain ⟨td, cd, m0, u0, u1⟩ := mk_FileS d 1 (by omega) (by omega) (by omega)
  have m0' : g_lmarkDisk (d, 1) = some (cd, td) := by
    show f_lmarkDisk BIG _ = _
    rw [e_lmarkDisk, m0]; rfl
  obtain ⟨R, wi, ws, hR⟩ := w_MendActs d n hd1
  obtain ⟨ta, ca, ma, da, la, va⟩ := mh_ActS R.1 1 (by omega) (by omega) (by omega)
  simp only [Option.bind_some, to_Disk d hd1, ws, wi, eq_ActS R.1 (by omega), eq_Disk d hd1, Bool.not_true, cond_false, beq_self_eq_true, m0', neg_f (show 1 ≤ cd from by omega), ma, da, neg_f la, decide_true]
end Go.Fw
