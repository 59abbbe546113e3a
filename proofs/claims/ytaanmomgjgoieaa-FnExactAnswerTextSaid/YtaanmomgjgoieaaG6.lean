/- What the given functions compute, and what that comes to. No conditions. -/
import Derived.Test.YtaanmomgjgoieaaG5
set_option linter.unusedVariables false
set_option linter.unusedSimpArgs false
namespace Go.Fw

def lbP (l : List Int) (i : Nat) : Bool := match l[i]? with
  | some y => inB y 0 i && (match l[y.toNat]? with
    | some z => decide (z = y)
    | none => false)
  | none => false
theorem lbP_eq {l : List Int} {i : Nat} {y z : Int} (h : l[i]? = some y) (h' : l[y.toNat]? = some z) : lbP l i = (inB y 0 i && decide (z = y)) := by
  unfold lbP; rw [h]; simp only [h']
theorem lbP_f {l : List Int} {i : Nat} {y : Int} (h : l[i]? = some y) (h' : inB y 0 i = false) : lbP l i = false := by
  unfold lbP; rw [h]; simp only [h', Bool.false_and]
def lbOk (n : Int) (l : List Int) : Bool := if (l.length : Int) = n then (if ∀ i, i < l.length → lbP l i = true then true else false) else false

theorem h138 (n : Int) (l : List Int) (hl : l.length ≤ 1048576) : g138 (n, l) = some (lbOk n l, ()) := by
  have hm : maxLen = 9223372036854775807 := by decide
  show f138 BIG _ = _
  rw [e138]
  unfold lbOk
  by_cases hn : (l.length : Int) = n
  · rw [if_pos hn, decide_eq_true hn, Bool.not_true, cond_false, allLoop l (by omega) (lbP l) false]
    · split <;> rfl
    · intro self i y hy
      have hi := (List.getElem?_eq_some_iff.1 hy).1
      simp only [show ((i : Int) < (l.length : Int)) from by omega, decide_true, cond_true]
      rw [bnd_nat hi, hy, Option.bind_some, h84', wr1 (by omega)]
      cases hb : inB y 0 (i : Int) with
      | false => rw [lbP_f hy hb]; simp
      | true =>
        have := inB_t.1 hb
        have hz : l[y.toNat]? = some (l[y.toNat]'(by omega)) := List.getElem?_eq_getElem (by omega)
        rw [lbP_eq hy hz, hb]
        simp only [Option.bind_some, Bool.not_true, cond_false, Bool.true_and]
        rw [bnd_ok (by omega) (by omega), hz]
        simp only [Option.bind_some]
        by_cases hd : l[y.toNat]'(by omega) = y <;> simp [hd]
    · intro self
      simp
  · rw [if_neg hn, decide_eq_false hn]; rfl
theorem h137 (n : Int) (l : List Int) (hl : l.length ≤ 1048576) : g137 (n, l) = some (lbOk n l, ()) := by
  have hm : maxLen = 9223372036854775807 := by decide
  show f137 BIG _ = _
  rw [e137]
  unfold lbOk
  by_cases hn : (l.length : Int) = n
  · rw [if_pos hn, decide_eq_true hn, Bool.not_true, cond_false]
    subst hn
    rw [allLoop l (by omega) (lbP l) false]
    · split <;> rfl
    · intro self i y hy
      have hi := (List.getElem?_eq_some_iff.1 hy).1
      simp only [show ((i : Int) < (l.length : Int)) from by omega, decide_true, cond_true]
      simp only [bnd_nat hi, hy, Option.bind_some, h82', wr1 (show i < maxLen from by omega)]
      cases hb : inB y 0 (i : Int) with
      | false => rw [lbP_f hy hb]; simp
      | true =>
        have := inB_t.1 hb
        have hz : l[y.toNat]? = some (l[y.toNat]'(by omega)) := List.getElem?_eq_getElem (by omega)
        rw [lbP_eq hy hz, hb]
        simp only [Option.bind_some, Bool.not_true, cond_false, Bool.true_and]
        rw [bnd_ok (by omega) (by omega), hz]
        simp only [Option.bind_some]
        by_cases hd : l[y.toNat]'(by omega) = y <;> simp [hd]
    · intro self
      simp
  · rw [if_neg hn, decide_eq_false hn]; rfl

abbrev An := Int × Bool × List (Int × Int) × List Int
def ansB (n : Int) (o : An) : Bool := inB n 1 12 && (inB o.1 1 100000 && (eOk n o.2.2.1 && lbOk n o.2.2.2))
theorem h132 (n : Int) (o : An) (hl : o.2.2.1.length ≤ 1048576) (hl' : o.2.2.2.length ≤ 1048576) : g132 (n, o) = some (ansB n o, ()) := by
  show f132 BIG _ = _
  rw [e132]
  simp only [h84', h99 n _ hl, h138 n _ hl', Option.bind_some]
  unfold ansB
  cases inB n 1 12 <;> cases inB o.1 1 100000 <;> cases eOk n o.2.2.1 <;> rfl
theorem h130 (n : Int) (o : An) (hl : o.2.2.1.length ≤ 1048576) (hl' : o.2.2.2.length ≤ 1048576) : g130 (n, o) = some (ansB n o, ()) := by
  show f130 BIG _ = _
  rw [e130]
  simp only [h82', h101 n _ hl, h137 n _ hl', Option.bind_some]
  unfold ansB
  cases inB n 1 12 <;> cases inB o.1 1 100000 <;> cases eOk n o.2.2.1 <;> rfl

def flB (b : Bool) : ByteArray := bif b then ByteArray.mk #[1] else ByteArray.mk #[0]
theorem flB_size (b : Bool) : (flB b).size = 1 := by cases b <;> rfl
theorem h131 (b : Bool) : g131 b = some (flB b, ()) := by
  show f131 BIG _ = _
  rw [e131]
  cases b <;> rfl

def lbT (s : ByteArray) (y : Int) : ByteArray := s ++ bytesStr [IntKind.wrap .u8 y]
theorem lbT_size (s : ByteArray) (y : Int) : (lbT s y).size = s.size + 1 := by
  unfold lbT; rw [ByteArray.size_append, bytesStr_size]; rfl

theorem h79 (n : Int) (o : An) (hl : o.2.2.1.length ≤ 1048576) (hl' : o.2.2.2.length ≤ 1048576) : ∃ r : ByteArray × Bool, g79 (n, o) = some (r, ()) ∧ g77 (n, o) = some (r, ()) := by
  have hm : maxLen = 9223372036854775807 := by decide
  have e1 : g79 (n, o) = f79 BIG (n, o) := rfl
  have e2 : g77 (n, o) = f77 BIG (n, o) := rfl
  rw [e1, e2, e79, e77, h132 n o hl hl', h130 n o hl hl']
  simp only [Option.bind_some]
  cases h : ansB n o with
  | false => exact ⟨_, rfl, rfl⟩
  | true =>
    have h' := h
    unfold ansB at h'
    simp only [Bool.and_eq_true] at h'
    obtain ⟨hn, h1, h2, h3⟩ := h'
    have hn := inB_t.1 hn
    have h1 := inB_t.1 h1
    have h4 : n = (o.2.2.2.length : Int) := by
      unfold lbOk at h3
      split at h3
      · rename_i h; exact h.symm
      · cases h3
    subst h4
    obtain ⟨b1, s1, p1, q1⟩ := h115 o.1 (by omega) (by omega)
    obtain ⟨b3, s3, p3, q3⟩ := h116 o.2.2.1 (eOk_len h2)
    simp only [Bool.not_true, cond_false, p1, p3, q1, q3, h131, h112, Option.bind_some]
    have hf : (bif o.2.1 then some (ByteArray.mk #[1]) else some (ByteArray.mk #[0])) = some (flB o.2.1) := by
      unfold flB; cases o.2.1 <;> rfl
    simp only [hf, Option.bind_some, ByteArray.size_append, flB_size, bytesStr_size, List.length_cons, List.length_nil]
    rw [decide_eq_true (by omega), decide_eq_true (by omega)]
    simp only [cond_true]
    have key : ∀ (F : (ByteArray × Int → Option ByteArray) → ByteArray × Int → Option ByteArray), F = (fun (self5 : ByteArray × Int → Option (ByteArray)) (x4 : ByteArray × Int) =>
      bif decide (x4.2 < (o.2.2.2.length : Int)) then
       bnd o.2.2.2.length x4.2 fun n6 =>
       Option.bind o.2.2.2[n6]? fun y7 =>
       bif decide (x4.1.size + (0 + 1) ≤ 4611686018427387904) then
        self5 (x4.1 ++ (bytesStr ([IntKind.wrap .u8 (y7)])), IntKind.wrap .i64 (x4.2 + (1 : Int)))
       else none
      else some x4.1) → loopT BIG F (b1 ++ flB o.2.1 ++ b3, 0) = some (o.2.2.2.foldl lbT (b1 ++ flB o.2.1 ++ b3)) := by
      intro F hF
      rw [foldLoop o.2.2.2 (by omega) (fun i (c : ByteArray) => c.size ≤ 4000000000 + i) lbT id (by simp only [ByteArray.size_append, flB_size]; omega) (fun i c y _ (h : c.size ≤ _) => by rw [lbT_size]; omega)]
      · rfl
      · intro self c i y hy (hc : c.size ≤ _)
        have hi := (List.getElem?_eq_some_iff.1 hy).1
        rw [hF]
        simp only [show ((i : Int) < (o.2.2.2.length : Int)) from by omega, decide_true, cond_true]
        rw [bnd_nat hi, hy, Option.bind_some, decide_eq_true (by omega), cond_true, wr1 (by omega)]
        rfl
      · intro self c hc
        rw [hF]
        simp
    refine ⟨(o.2.2.2.foldl lbT (b1 ++ flB o.2.1 ++ b3), true), ?_, ?_⟩
    · rw [key _ rfl]; rfl
    · rw [key _ rfl]; rfl

theorem h76 (o : An) (ha : o.2.2.1.length ≤ maxLen) (hb : o.2.2.2.length ≤ maxLen) : g76 (o, 1048576) = some (if o.2.2.1.length + o.2.2.2.length ≤ 1048576 then 1048576 - (o.2.2.1.length : Int) - o.2.2.2.length else -1, ()) := by
  show f76 BIG _ = _
  rw [e76, h25 _ _ (by omega) (by omega) ha, Option.bind_some]
  by_cases h : (o.2.2.1.length : Int) ≤ 1048576
  · rw [if_pos h, decide_eq_false (by simp; omega), cond_false, h81 _ _ (by simp; omega) (by simp; omega) hb, Option.bind_some]
    by_cases h' : (o.2.2.2.length : Int) ≤ 1048576 - (o.2.2.1.length : Int)
    · rw [if_pos h', decide_eq_false (by simp; omega), if_pos (by omega)]; rfl
    · rw [if_neg h', if_neg (by omega)]; rfl
  · rw [if_neg h, if_neg (by omega)]; rfl
theorem h78 (o : An) (hl : o.2.2.1.length ≤ 1048576) (hl' : o.2.2.2.length ≤ 1048576) : g78 o = some (o, ()) := by
  show f78 BIG _ = _
  rw [e78, h27 _ hl, Option.bind_some, h26 _ hl']; rfl
theorem h80 (o : An) (hl : o.2.2.1.length ≤ maxLen) (hl' : o.2.2.2.length ≤ maxLen) : g80 (o, o) = some (true, ()) := by
  show f80 BIG _ = _
  rw [e80, h28 _ _ hl, h29 _ hl']
  simp

theorem law14 (n : Int) (o : An) (h1 : o.2.2.1.length ≤ maxLen) (h2 : o.2.2.2.length ≤ maxLen) : g14 (n, o) = some (true, ()) := by
  show f14 BIG _ = _
  rw [e14, h76 o h1 h2, Option.bind_some]
  by_cases ho : o.2.2.1.length + o.2.2.2.length ≤ 1048576
  · rw [if_pos ho, decide_eq_false (by simp; omega), cond_false]
    obtain ⟨r, p, q⟩ := h79 n o (by omega) (by omega)
    simp only [h78 o (by omega) (by omega), p, q, h80 o h1 h2, Option.bind_some]
    simp
  · rw [if_neg ho]; rfl
end Go.Fw
