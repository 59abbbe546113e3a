/- What the given functions come to. No conditions. -/
import Derived.Test.YthgfbaannligeaaX0
import Derived.IntWalk
set_option linter.unusedVariables false
set_option linter.unusedSimpArgs false
namespace Go.Fw

theorem loop_rel {X B : Type} {F : (X → Option B) → X → Option B} (I : X → Prop) (μ : X → Nat) (Q : X → B → Prop)
    (h : ∀ self x, I x → (∀ y, I y → μ y < μ x → ∃ b, self y = some b ∧ Q y b) → ∃ b, F self x = some b ∧ Q x b) : ∀ {n : Nat} {x : X}, μ x < n → I x → ∃ b, loopT n F x = some b ∧ Q x b
  | 0, _, hn, _ => absurd hn (Nat.not_lt_zero _)
  | n + 1, x, hn, hi => h (it F n) x hi fun _ hy hm => loop_rel I μ Q h (n := n) (by omega) hy
theorem loop_eq {X B : Type} {F : (X → Option B) → X → Option B} (I : X → Prop) (μ : X → Nat) (R : X → B)
    (h : ∀ self x, I x → (∀ y, I y → μ y < μ x → self y = some (R y)) → F self x = some (R x)) {n : Nat} {x : X} (hn : μ x < n) (hi : I x) : loopT n F x = some (R x) := by
  obtain ⟨b, h1, h2⟩ := loop_rel (F := F) I μ (fun x b => b = R x) (fun self x hx hs => ⟨_, h self x hx fun y hy hm => by obtain ⟨b, h1, h2⟩ := hs y hy hm; rw [h1, h2], rfl⟩) hn hi
  rw [h1, h2]
theorem wr {n : Int} (h : -9223372036854775808 ≤ n) (h' : n ≤ 9223372036854775807) : IntKind.wrap .i64 n = n := by
  rw [IntKind.wrap_i64]; omega
theorem wr1 {i : Nat} (h : i < maxLen) : IntKind.wrap .i64 ((i : Int) + 1) = ((i + 1 : Nat) : Int) := by
  have : maxLen = 9223372036854775807 := by decide
  rw [wr (by omega) (by omega)]; rfl
theorem bnd_ok {B : Type} {len : Nat} {i : Int} {k : Nat → Option B} (h : 0 ≤ i) (h' : i < len) : bnd len i k = k i.toNat := by
  unfold bnd
  rw [if_pos ⟨h, by omega⟩]
theorem bnd_nat {B : Type} {len : Nat} {i : Nat} {k : Nat → Option B} (h' : i < len) : bnd len (i : Int) k = k i := by
  rw [bnd_ok (Int.natCast_nonneg i) (by omega)]
  simp
/-- A loop that copies a row. -/
theorem cpLoop {α : Type} (a : List α) (hl : a.length < 18446744073709551616) {z : α} {F : (List α × Int → Option (List α)) → List α × Int → Option (List α)}
    (hF : ∀ self out (i : Nat) y, out.length = a.length → a[i]? = some y → F self (out, (i : Int)) = self (out.set i y, ((i + 1 : Nat) : Int)))
    (hE : ∀ self out, out.length = a.length → F self (out, (a.length : Int)) = some out) : loopT BIG F (List.replicate a.length z, 0) = some a := by
  have := loop_eq (F := F) (fun x => ∃ i : Nat, x.2 = i ∧ i ≤ a.length ∧ x.1.length = a.length ∧ x.1.take i = a.take i) (fun x => a.length - x.2.toNat) (fun _ => a) (fun self x ⟨i, h1, h2, h3, h4⟩ hs => ?_) (n := BIG) (x := (List.replicate a.length z, 0)) (by simp; exact hl) ⟨0, rfl, by simp, by simp, by simp⟩
  · exact this
  · obtain ⟨out, j⟩ := x
    simp only at h1 h2 h3 h4
    subst h1
    by_cases hi : i < a.length
    · rw [hF self out i a[i] h3 (List.getElem?_eq_getElem hi)]
      refine hs _ ⟨i + 1, rfl, hi, by simpa using h3, ?_⟩ (by simp; omega)
      rw [List.take_set, List.take_succ_eq_append_getElem (by omega : i < out.length), List.take_succ_eq_append_getElem hi, h4, List.set_append_right _ _ (by simp; omega)]
      simp [Nat.min_eq_left h2]
    · have : i = a.length := by omega
      subst this
      rw [hE self out h3]
      rw [List.take_of_length_le (by omega), List.take_of_length_le (by omega)] at h4
      rw [h4]
/-- A loop that goes through a row, and is left at the first place where it is told so. -/
theorem allLoop {α B : Type} (a : List α) (hl : a.length < 18446744073709551616) {F : (Int → Option (Unit ⊕ B)) → Int → Option (Unit ⊕ B)} (p : Nat → Bool) (b : B)
    (hF : ∀ self (i : Nat) y, a[i]? = some y → F self (i : Int) = if p i then self ((i + 1 : Nat) : Int) else some (.inr b))
    (hE : ∀ self, F self (a.length : Int) = some (.inl ())) : loopT BIG F 0 = some (if ∀ i, i < a.length → p i = true then .inl () else .inr b) := by
  have hh := loop_rel (F := F) (fun x => ∃ i : Nat, x = i ∧ i ≤ a.length) (fun x => a.length - x.toNat) (fun x r => ((∀ i : Nat, x ≤ (i : Int) → i < a.length → p i = true) ∧ r = .inl ()) ∨ ((∃ i : Nat, i < a.length ∧ p i = false) ∧ r = .inr b)) (fun self x ⟨i, h1, h2⟩ hs => ?_) (n := BIG) (x := 0) (by simp; exact hl) ⟨0, rfl, by simp⟩
  · obtain ⟨r, hr, hq⟩ := hh
    rw [hr]
    congr 1
    rcases hq with ⟨h1, rfl⟩ | ⟨⟨i, h1, h2⟩, rfl⟩
    · rw [if_pos fun i hi => h1 i (by omega) hi]
    · rw [if_neg]
      intro h
      rw [h i h1] at h2; cases h2
  · subst h1
    by_cases hi : i < a.length
    · rw [hF self i a[i] (List.getElem?_eq_getElem hi)]
      cases hp : p i with
      | true =>
        rw [if_pos rfl]
        obtain ⟨r, hr, hq⟩ := hs _ ⟨i + 1, rfl, hi⟩ (by simp; omega)
        refine ⟨r, hr, ?_⟩
        rcases hq with ⟨h1, rfl⟩ | h1
        · refine .inl ⟨fun k hk hk' => ?_, rfl⟩
          by_cases h : k = i
          · subst h; exact hp
          · exact h1 k (by omega) hk'
        · exact .inr h1
      | false => exact ⟨_, rfl, .inr ⟨⟨i, hi, hp⟩, rfl⟩⟩
    · have : i = a.length := by omega
      subst this
      exact ⟨_, hE self, .inl ⟨fun k hk hk' => by omega, rfl⟩⟩
theorem maxLen_lt : maxLen < 18446744073709551616 := by decide
/-- Two rows that are looked at side by side. -/
theorem eqLoop {α B : Type} [DecidableEq α] (a b : List α) (hl : a.length ≤ maxLen) (hab : a.length = b.length) {F : (Int → Option (Unit ⊕ B)) → Int → Option (Unit ⊕ B)} (r : B)
    (hF : ∀ self (i : Nat) x y, a[i]? = some x → b[i]? = some y → F self (i : Int) = if x = y then self ((i + 1 : Nat) : Int) else some (.inr r))
    (hE : ∀ self, F self (a.length : Int) = some (.inl ())) : loopT BIG F 0 = some (if a = b then .inl () else .inr r) := by
  rw [allLoop a (Nat.lt_of_le_of_lt hl maxLen_lt) (fun i => decide (a[i]? = b[i]?)) r (fun self i y hy => ?_) hE]
  · congr 1
    by_cases h : a = b
    · subst h; simp
    · rw [if_neg h, if_neg]
      intro h'
      apply h
      apply List.ext_getElem? fun i => ?_
      by_cases hi : i < a.length
      · simpa using h' i hi
      · rw [List.getElem?_eq_none (by omega), List.getElem?_eq_none (by omega)]
  · have hi := (List.getElem?_eq_some_iff.1 hy).1
    have hb : b[i]? = some (b[i]'(by omega)) := List.getElem?_eq_getElem (by omega)
    rw [hF self i y _ hy hb, hy, hb]
    simp
/-- A loop that takes from what is left. -/
theorem szLoop {α B : Type} (a : List α) (z : α → Nat) (b : B) (l0 : Int) (h0 : 0 ≤ l0) (h0' : l0 ≤ 1048576) (hl : a.length < 18446744073709551616) {F : (Int × Int → Option (Int ⊕ B)) → Int × Int → Option (Int ⊕ B)}
    (hF : ∀ self (i : Nat) (l : Int) y, a[i]? = some y → 0 ≤ l → l ≤ 1048576 → F self (l, (i : Int)) = if (z y : Int) ≤ l then self (l - z y, ((i + 1 : Nat) : Int)) else some (.inr b))
    (hE : ∀ self l, F self (l, (a.length : Int)) = some (.inl l)) :
    loopT BIG F (l0, 0) = some (if ((a.map z).sum : Int) ≤ l0 then .inl (l0 - ((a.map z).sum : Nat)) else .inr b) := by
  have := loop_eq (F := F) (fun x => ∃ i : Nat, x.2 = i ∧ i ≤ a.length ∧ 0 ≤ x.1 ∧ x.1 ≤ 1048576) (fun x => a.length - x.2.toNat) (fun x => if (((a.drop x.2.toNat).map z).sum : Int) ≤ x.1 then .inl (x.1 - (((a.drop x.2.toNat).map z).sum : Nat)) else .inr b)
    (fun self x ⟨i, h1, h2, h3, h4⟩ hs => ?_) (n := BIG) (x := (l0, 0)) (by simp; exact hl) ⟨0, rfl, by simp, h0, h0'⟩
  · simpa using this
  · obtain ⟨l, j⟩ := x
    simp only at h1 h3 h4
    subst h1
    simp only [Int.toNat_natCast]
    by_cases hi : i < a.length
    · have hy := List.getElem?_eq_getElem hi
      rw [hF self i l _ hy h3 h4, List.drop_eq_getElem_cons hi, List.map_cons, List.sum_cons]
      by_cases hz : (z a[i] : Int) ≤ l
      · rw [if_pos hz, hs _ ⟨i + 1, rfl, hi, by simp only; omega, by simp only; omega⟩ (by simp only [Int.toNat_natCast]; omega)]
        simp only [Int.toNat_natCast]
        by_cases hq : (((a.drop (i + 1)).map z).sum : Int) ≤ l - z a[i]
        · rw [if_pos hq, if_pos (by omega)]
          congr 2
          omega
        · rw [if_neg hq, if_neg (by omega)]
      · rw [if_neg hz, if_neg (by omega)]
    · have : i = a.length := by omega
      subst this
      rw [hE self l, List.drop_length]
      simp [h3]
/-- Two vertices hang together by edges. -/
inductive Con (E : List (Int × Int)) : Int → Int → Prop
  | refl (v : Int) : Con E v v
  | fwd {u v w : Int} : Con E u v → (v, w) ∈ E → Con E u w
  | bwd {u v w : Int} : Con E u v → (w, v) ∈ E → Con E u w
theorem Con.trans {E : List (Int × Int)} {u v w : Int} (h : Con E u v) (h' : Con E v w) : Con E u w := by
  induction h' with
  | refl => exact h
  | fwd _ he ih => exact .fwd ih he
  | bwd _ he ih => exact .bwd ih he
theorem Con.symm {E : List (Int × Int)} {u v : Int} (h : Con E u v) : Con E v u := by
  induction h with
  | refl => exact .refl _
  | fwd _ he ih => exact Con.trans (.bwd (.refl _) he) ih
  | bwd _ he ih => exact Con.trans (.fwd (.refl _) he) ih
theorem Con.mono {E E' : List (Int × Int)} (hE : ∀ e, e ∈ E → e ∈ E') {u v : Int} (h : Con E u v) : Con E' u v := by
  induction h with
  | refl => exact .refl _
  | fwd _ he ih => exact .fwd ih (hE _ he)
  | bwd _ he ih => exact .bwd ih (hE _ he)
theorem Con.nil {u v : Int} (h : Con [] u v) : u = v := by
  induction h with
  | refl => rfl
  | fwd _ he _ => cases he
  | bwd _ he _ => cases he
/-- Labels: to each vertex the least one that it hangs together with. -/
def Lab (n : Nat) (E : List (Int × Int)) (l : List Int) : Prop :=
  l.length = n ∧ ∀ (v : Nat) (x : Int), l[v]? = some x → Con E v x ∧ 0 ≤ x ∧ ∀ u : Int, 0 ≤ u → Con E v u → x ≤ u
theorem Lab.le {n : Nat} {E : List (Int × Int)} {l : List Int} (h : Lab n E l) {v : Nat} {x : Int} (hx : l[v]? = some x) : x ≤ v :=
  (h.2 v x hx).2.2 v (Int.natCast_nonneg v) (.refl _)
theorem Lab.lt {n : Nat} {E : List (Int × Int)} {l : List Int} (h : Lab n E l) {v : Nat} {x : Int} (hx : l[v]? = some x) : 0 ≤ x ∧ x < n := by
  have h1 := h.le hx
  have h2 := (List.getElem?_eq_some_iff.1 hx).1
  have h3 := (h.2 v x hx).2.1
  have h4 := h.1
  omega
theorem Lab.iff {n : Nat} {E : List (Int × Int)} {l : List Int} (h : Lab n E l) {u v : Nat} {x y : Int} (hx : l[u]? = some x) (hy : l[v]? = some y) : x = y ↔ Con E u v := by
  have h1 := h.2 u x hx
  have h2 := h.2 v y hy
  constructor
  · intro e
    subst e
    exact h1.1.trans h2.1.symm
  · intro c
    have a := h1.2.2 y h2.2.1 (c.trans h2.1)
    have b := h2.2.2 x h1.2.1 (c.symm.trans h1.1)
    omega
/-- A label is its own label. -/
theorem Lab.self {n : Nat} {E : List (Int × Int)} {l : List Int} (h : Lab n E l) {v : Nat} {x : Int} (hx : l[v]? = some x) : l[x.toNat]? = some x := by
  have h1 := h.lt hx
  have hi : x.toNat < l.length := by rw [h.1]; omega
  rw [List.getElem?_eq_getElem hi]
  have h2 := h.2 v x hx
  have hc : Con E (x.toNat : Int) v := by rw [Int.toNat_of_nonneg h1.1]; exact h2.1.symm
  rw [(h.iff (List.getElem?_eq_getElem hi) hx).2 hc]
section
variable {n : Nat} {E : List (Int × Int)} {L : List Int}
/-- On the way down to the labels. -/
def Dn (n : Nat) (E : List (Int × Int)) (l : List Int) : Prop := l.length = n ∧ ∀ (v : Nat) (x : Int), l[v]? = some x → Con E v x ∧ 0 ≤ x
theorem Dn.set {l : List Int} (h : Dn n E l) {v : Nat} {x : Int} (hc : Con E v x) (h0 : 0 ≤ x) : Dn n E (l.set v x) := by
  refine ⟨by simp [h.1], fun u y hu => ?_⟩
  rw [List.getElem?_set] at hu
  split at hu
  · subst v
    split at hu
    · cases hu; exact ⟨hc, h0⟩
    · cases hu
  · exact h.2 u y hu
end
abbrev Ed := Int × Int
abbrev Sd := Int × Int × Int × Int × Int × Int
open Classical in
open Classical in
theorem to_Ask (x0 : Int) (x1 : Int) (x2 : Int) (x3 : Int) : g_ltoAsk (x0, x1, x2, x3) = some ((x0, x1, x2, x3), ()) := e_ltoAsk BIG _
theorem eq_Ask (x0 : Int) (x1 : Int) (x2 : Int) (x3 : Int) (y0 : Int) (y1 : Int) (y2 : Int) (y3 : Int) : g_leqAsk ((x0, x1, x2, x3), (y0, y1, y2, y3)) = some (decide ((x0, x1, x2, x3) = (y0, y1, y2, y3)), ()) := by
  show f_leqAsk BIG _ = _
  rw [e_leqAsk]
  dsimp only
  by_cases c0 : x0 = y0
  case neg =>
    simp [c0]
  rw [decide_eq_true c0, Bool.not_true, cond_false]
  by_cases c1 : x1 = y1
  case neg =>
    simp [c1]
  rw [decide_eq_true c1, Bool.not_true, cond_false]
  by_cases c2 : x2 = y2
  case neg =>
    simp [c2]
  rw [decide_eq_true c2, Bool.not_true, cond_false]
  by_cases c3 : x3 = y3
  case neg =>
    simp [c3]
  rw [decide_eq_true c3, Bool.not_true, cond_false]
  rw [decide_eq_true (by simp_all)]
theorem to_Edge (x0 : Int) (x1 : Int) : g_ltoEdge (x0, x1) = some ((x0, x1), ()) := e_ltoEdge BIG _
theorem eq_Edge (x0 : Int) (x1 : Int) (y0 : Int) (y1 : Int) : g_leqEdge ((x0, x1), (y0, y1)) = some (decide ((x0, x1) = (y0, y1)), ()) := by
  show f_leqEdge BIG _ = _
  rw [e_leqEdge]
  dsimp only
  by_cases c0 : x0 = y0
  case neg =>
    simp [c0]
  rw [decide_eq_true c0, Bool.not_true, cond_false]
  by_cases c1 : x1 = y1
  case neg =>
    simp [c1]
  rw [decide_eq_true c1, Bool.not_true, cond_false]
  rw [decide_eq_true (by simp_all)]
theorem to_Said (x0 x1 x2 x3 x4 x5 : Int) : g_ltoSaid (x0, x1, x2, x3, x4, x5) = some ((x0, x1, x2, x3, x4, x5), ()) := by
  show f_ltoSaid BIG _ = _
  rw [e_ltoSaid]
  dsimp only
  rw [to_Ask, Option.bind_some]
theorem eq_Said (x0 x1 x2 x3 x4 x5 y0 y1 y2 y3 y4 y5 : Int) : g_leqSaid ((x0, x1, x2, x3, x4, x5), (y0, y1, y2, y3, y4, y5)) = some (decide ((x0, x1, x2, x3, x4, x5) = (y0, y1, y2, y3, y4, y5)), ()) := by
  show f_leqSaid BIG _ = _
  rw [e_leqSaid]
  dsimp only
  by_cases c0 : x0 = y0
  case neg =>
    simp [c0]
  rw [decide_eq_true c0, Bool.not_true, cond_false, eq_Ask, Option.bind_some]
  by_cases c1 : (x1, x2, x3, x4) = (y1, y2, y3, y4)
  case neg =>
    rw [decide_eq_false c1, Bool.not_false, cond_true, decide_eq_false]
    intro h; apply c1; simp_all
  rw [decide_eq_true c1, Bool.not_true, cond_false]
  by_cases c2 : x5 = y5
  case neg =>
    simp [c2]
  rw [decide_eq_true c2, Bool.not_true, cond_false]
  rw [decide_eq_true (by simp_all)]
theorem sz_IntS (a : List (Int)) (l : Int) (h0 : 0 ≤ l) (h1 : l ≤ 1048576) (ha : a.length ≤ maxLen) : g_lszIntS (a, l) = some (if ((a.length : Nat) : Int) ≤ l then l - (a.length : Nat) else -1, ()) := by
  have hm : maxLen = 9223372036854775807 := by decide
  show f_lszIntS BIG _ = _
  rw [e_lszIntS, wr (by omega) (by omega)]
  by_cases h : ((a.length : Nat) : Int) ≤ l
  · rw [if_pos h, decide_eq_false (by omega), cond_false]
  · rw [if_neg h, decide_eq_true (by omega), cond_true]
theorem to_IntS (a : List (Int)) (h : a.length ≤ 1048576) : g_ltoIntS a = some (a, ()) := by
  have hm : maxLen = 9223372036854775807 := by decide
  show f_ltoIntS BIG _ = _
  rw [e_ltoIntS, decide_eq_true (by omega), cond_true, decide_eq_true (by simp; omega), cond_true]
  simp only [Int.toNat_natCast]
  rw [cpLoop a (by omega)]
  · rfl
  · intro self out i y hl hy
    have hi := (List.getElem?_eq_some_iff.1 hy).1
    simp only [show ((i : Int) < (a.length : Int)) from by omega, decide_true, cond_true]
    rw [bnd_nat hi, hy, Option.bind_some]
    rw [bnd_nat (by omega), List.getElem?_eq_getElem (by omega), Option.bind_some, wr1 (by omega)]
  · intro self out hl
    simp
theorem eq_IntS (a b : List (Int)) (h : a.length ≤ 4294967296) : g_leqIntS (a, b) = some (decide (a = b), ()) := by
  have hm : maxLen = 9223372036854775807 := by decide
  show f_leqIntS BIG _ = _
  rw [e_leqIntS]
  by_cases hl : a.length = b.length
  · rw [decide_eq_true (by omega), Bool.not_true, cond_false, eqLoop a b (by omega) hl false]
    · by_cases h : a = b <;> simp [h]
    · intro self i x y hx hy
      have hi := (List.getElem?_eq_some_iff.1 hx).1
      simp only [show ((i : Int) < (a.length : Int)) from by omega, decide_true, cond_true]
      rw [bnd_nat hi, hx, Option.bind_some, bnd_nat (by omega), hy, Option.bind_some]
      rw [wr1 (by omega)]
      by_cases h : x = y <;> simp [h]
    · intro self
      simp
  · rw [decide_eq_false (by omega), Bool.not_false, cond_true, decide_eq_false (fun h => hl (by rw [h]))]
theorem sz_EdgeS (a : List (Int × Int)) (l : Int) (h0 : 0 ≤ l) (h1 : l ≤ 1048576) (ha : a.length ≤ maxLen) : g_lszEdgeS (a, l) = some (if ((a.length : Nat) : Int) ≤ l then l - (a.length : Nat) else -1, ()) := by
  have hm : maxLen = 9223372036854775807 := by decide
  show f_lszEdgeS BIG _ = _
  rw [e_lszEdgeS, wr (by omega) (by omega)]
  by_cases h : ((a.length : Nat) : Int) ≤ l
  · rw [if_pos h, decide_eq_false (by omega), cond_false]
  · rw [if_neg h, decide_eq_true (by omega), cond_true]
theorem to_EdgeS (a : List (Int × Int)) (h : a.length ≤ 1048576) : g_ltoEdgeS a = some (a, ()) := by
  have hm : maxLen = 9223372036854775807 := by decide
  show f_ltoEdgeS BIG _ = _
  rw [e_ltoEdgeS, decide_eq_true (by omega), cond_true, decide_eq_true (by simp; omega), cond_true]
  simp only [Int.toNat_natCast]
  rw [cpLoop a (by omega)]
  · rfl
  · intro self out i y hl hy
    have hi := (List.getElem?_eq_some_iff.1 hy).1
    simp only [show ((i : Int) < (a.length : Int)) from by omega, decide_true, cond_true]
    rw [bnd_nat hi, hy, Option.bind_some]
    rw [to_Edge _ _, Option.bind_some]
    rw [bnd_nat (by omega), List.getElem?_eq_getElem (by omega), Option.bind_some, wr1 (by omega)]
  · intro self out hl
    simp
theorem eq_EdgeS (a b : List (Int × Int)) (h : a.length ≤ 4294967296) : g_leqEdgeS (a, b) = some (decide (a = b), ()) := by
  have hm : maxLen = 9223372036854775807 := by decide
  show f_leqEdgeS BIG _ = _
  rw [e_leqEdgeS]
  by_cases hl : a.length = b.length
  · rw [decide_eq_true (by omega), Bool.not_true, cond_false, eqLoop a b (by omega) hl false]
    · by_cases h : a = b <;> simp [h]
    · intro self i x y hx hy
      have hi := (List.getElem?_eq_some_iff.1 hx).1
      simp only [show ((i : Int) < (a.length : Int)) from by omega, decide_true, cond_true]
      rw [bnd_nat hi, hx, Option.bind_some, bnd_nat (by omega), hy, Option.bind_some]
      rw [wr1 (by omega)]
      rw [eq_Edge _ _ _ _, Option.bind_some]
      by_cases h : x = y <;> simp [h]
    · intro self
      simp
  · rw [decide_eq_false (by omega), Bool.not_false, cond_true, decide_eq_false (fun h => hl (by rw [h]))]
theorem sz_SaidS (a : List (Int × Int × Int × Int × Int × Int)) (l : Int) (h0 : 0 ≤ l) (h1 : l ≤ 1048576) (ha : a.length ≤ maxLen) : g_lszSaidS (a, l) = some (if ((a.length : Nat) : Int) ≤ l then l - (a.length : Nat) else -1, ()) := by
  have hm : maxLen = 9223372036854775807 := by decide
  show f_lszSaidS BIG _ = _
  rw [e_lszSaidS, wr (by omega) (by omega)]
  by_cases h : ((a.length : Nat) : Int) ≤ l
  · rw [if_pos h, decide_eq_false (by omega), cond_false]
  · rw [if_neg h, decide_eq_true (by omega), cond_true]
theorem to_SaidS (a : List (Int × Int × Int × Int × Int × Int)) (h : a.length ≤ 1048576) : g_ltoSaidS a = some (a, ()) := by
  have hm : maxLen = 9223372036854775807 := by decide
  show f_ltoSaidS BIG _ = _
  rw [e_ltoSaidS, decide_eq_true (by omega), cond_true, decide_eq_true (by simp; omega), cond_true]
  simp only [Int.toNat_natCast]
  rw [cpLoop a (by omega)]
  · rfl
  · intro self out i y hl hy
    have hi := (List.getElem?_eq_some_iff.1 hy).1
    simp only [show ((i : Int) < (a.length : Int)) from by omega, decide_true, cond_true]
    rw [bnd_nat hi, hy, Option.bind_some]
    rw [to_Said _ _ _ _ _ _, Option.bind_some]
    rw [bnd_nat (by omega), List.getElem?_eq_getElem (by omega), Option.bind_some, wr1 (by omega)]
  · intro self out hl
    simp
theorem eq_SaidS (a b : List (Int × Int × Int × Int × Int × Int)) (h : a.length ≤ 4294967296) : g_leqSaidS (a, b) = some (decide (a = b), ()) := by
  have hm : maxLen = 9223372036854775807 := by decide
  show f_leqSaidS BIG _ = _
  rw [e_leqSaidS]
  by_cases hl : a.length = b.length
  · rw [decide_eq_true (by omega), Bool.not_true, cond_false, eqLoop a b (by omega) hl false]
    · by_cases h : a = b <;> simp [h]
    · intro self i x y hx hy
      have hi := (List.getElem?_eq_some_iff.1 hx).1
      simp only [show ((i : Int) < (a.length : Int)) from by omega, decide_true, cond_true]
      rw [bnd_nat hi, hx, Option.bind_some, bnd_nat (by omega), hy, Option.bind_some]
      rw [wr1 (by omega)]
      rw [eq_Said _ _ _ _ _ _ _ _ _ _ _ _, Option.bind_some]
      by_cases h : x = y <;> simp [h]
    · intro self
      simp
  · rw [decide_eq_false (by omega), Bool.not_false, cond_true, decide_eq_false (fun h => hl (by rw [h]))]
def z_IntSS (a : List (List (Int))) : Nat := a.length + (a.map fun y => y.length).sum
abbrev B_IntSS (a : List (List (Int))) : Prop := a.length ≤ maxLen ∧ ∀ y, y ∈ a → y.length ≤ maxLen
theorem z_IntSS_mem {a : List (List (Int))} {y : List (Int)} (h : y ∈ a) : y.length ≤ z_IntSS a := by
  have : ∀ a : List (List (Int)), y ∈ a → y.length ≤ (a.map fun y => y.length).sum := by
    intro a
    induction a with
    | nil => intro h; cases h
    | cons x a ih =>
      intro h
      rw [List.map_cons, List.sum_cons]
      rcases List.mem_cons.1 h with rfl | h
      · omega
      · have := ih h; omega
  have := this a h
  unfold z_IntSS; omega
theorem sz_IntSS (a : List (List (Int))) (l : Int) (h0 : 0 ≤ l) (h1 : l ≤ 1048576) (ha : B_IntSS a) : g_lszIntSS (a, l) = some (if ((z_IntSS a : Nat) : Int) ≤ l then l - (z_IntSS a : Nat) else -1, ()) := by
  have hm : maxLen = 9223372036854775807 := by decide
  have ha1 := ha.1
  show f_lszIntSS BIG _ = _
  rw [e_lszIntSS, wr (by omega) (by omega)]
  by_cases h : ((a.length : Nat) : Int) ≤ l
  case neg =>
    rw [decide_eq_true (by omega), cond_true, if_neg (by unfold z_IntSS; omega)]
  rw [decide_eq_false (by omega), cond_false, szLoop a (fun y => y.length) (-1) (l - (a.length : Nat)) (by omega) (by omega) (by omega)]
  · unfold z_IntSS
    by_cases c : (((a.map fun y => y.length).sum : Nat) : Int) ≤ l - (a.length : Nat)
    · rw [if_pos c, if_pos (by omega)]
      simp only [Option.bind_some]
      congr 2
      omega
    · rw [if_neg c, if_neg (by omega)]
      rfl
  · intro self i l y hy h0 h1
    have hi := (List.getElem?_eq_some_iff.1 hy).1
    simp only [show ((i : Int) < (a.length : Int)) from by omega, decide_true, cond_true]
    rw [bnd_nat hi, hy, Option.bind_some, sz_IntS y l h0 h1 (ha.2 y (List.mem_of_getElem? hy)), Option.bind_some]
    by_cases c : ((y.length : Nat) : Int) ≤ l
    · rw [if_pos c, if_pos c, decide_eq_false (by omega), cond_false, wr1 (by omega)]
    · rw [if_neg c, if_neg c, decide_eq_true (by omega), cond_true]
  · intro self l
    simp
theorem to_IntSS (a : List (List (Int))) (h : z_IntSS a ≤ 1048576) : g_ltoIntSS a = some (a, ()) := by
  have hm : maxLen = 9223372036854775807 := by decide
  have h1 : a.length ≤ 1048576 := by unfold z_IntSS at h; omega
  show f_ltoIntSS BIG _ = _
  rw [e_ltoIntSS, decide_eq_true (by omega), cond_true, decide_eq_true (by simp; omega), cond_true]
  simp only [Int.toNat_natCast]
  rw [cpLoop a (by omega)]
  · rfl
  · intro self out i y hl hy
    have hi := (List.getElem?_eq_some_iff.1 hy).1
    have hz := z_IntSS_mem (List.mem_of_getElem? hy)
    simp only [show ((i : Int) < (a.length : Int)) from by omega, decide_true, cond_true]
    rw [bnd_nat hi, hy, Option.bind_some, to_IntS y (by omega), Option.bind_some, bnd_nat (by omega), List.getElem?_eq_getElem (by omega), Option.bind_some, wr1 (by omega)]
  · intro self out hl
    simp
theorem eq_IntSS (a b : List (List (Int))) (h : z_IntSS a ≤ 4294967296) : g_leqIntSS (a, b) = some (decide (a = b), ()) := by
  have hm : maxLen = 9223372036854775807 := by decide
  have h1 : a.length ≤ 4294967296 := by unfold z_IntSS at h; omega
  show f_leqIntSS BIG _ = _
  rw [e_leqIntSS]
  by_cases hl : a.length = b.length
  · rw [decide_eq_true (by omega), Bool.not_true, cond_false, eqLoop a b (by omega) hl false]
    · by_cases h : a = b <;> simp [h]
    · intro self i x y hx hy
      have hi := (List.getElem?_eq_some_iff.1 hx).1
      have hz := z_IntSS_mem (List.mem_of_getElem? hx)
      simp only [show ((i : Int) < (a.length : Int)) from by omega, decide_true, cond_true]
      rw [bnd_nat hi, hx, Option.bind_some, bnd_nat (by omega), hy, Option.bind_some, eq_IntS x y (by omega), Option.bind_some, wr1 (by omega)]
      by_cases h : x = y <;> simp [h]
    · intro self
      simp
  · rw [decide_eq_false (by omega), Bool.not_false, cond_true, decide_eq_false (fun h => hl (by rw [h]))]
theorem sz_Order (x0 : Int) (x1 : Int) (x2 : List (Int × Int)) (x3 : Int) (l : Int) (h0 : 0 ≤ l) (h1 : l ≤ 1048576) (q2 : x2.length ≤ maxLen) : g_lszOrder ((x0, x1, x2, x3), l) = some (if (((x2.length) : Nat) : Int) ≤ l then l - ((x2.length) : Nat) else -1, ()) := by
  show f_lszOrder BIG _ = _
  rw [e_lszOrder]
  dsimp only
  have s0 := sz_EdgeS x2 (l) (by omega) (by omega) q2
  by_cases c0 : (((x2.length) : Nat) : Int) ≤ l
  case neg =>
    rw [if_neg c0] at s0
    rw [s0, Option.bind_some, if_neg (by omega)]
    all_goals rfl
  rw [if_pos c0] at s0
  rw [s0, Option.bind_some]
  dsimp only
  rw [decide_eq_false (by omega), cond_false]
  rw [if_pos (by omega)]
  all_goals first | rfl | (congr 2; done) | (congr 2; omega)
theorem to_Order (x0 : Int) (x1 : Int) (x2 : List (Int × Int)) (x3 : Int) (h : (x2.length) ≤ 1048576) : g_ltoOrder (x0, x1, x2, x3) = some ((x0, x1, x2, x3), ()) := by
  show f_ltoOrder BIG _ = _
  rw [e_ltoOrder]
  dsimp only
  rw [to_EdgeS x2 (by omega), Option.bind_some]
theorem eq_Order (x0 : Int) (x1 : Int) (x2 : List (Int × Int)) (x3 : Int) (h : (x2.length) ≤ 4294967296) : g_leqOrder ((x0, x1, x2, x3), (x0, x1, x2, x3)) = some (true, ()) := by
  show f_leqOrder BIG _ = _
  rw [e_leqOrder]
  dsimp only
  rw [decide_eq_true rfl, Bool.not_true, cond_false]
  rw [decide_eq_true rfl, Bool.not_true, cond_false]
  rw [eq_EdgeS x2 x2 (by omega), Option.bind_some]
  rw [decide_eq_true rfl, Bool.not_true, cond_false]
  rw [decide_eq_true rfl, Bool.not_true, cond_false]
theorem sz_Task (x0 : Int) (x1 : Int) (x2 : Int) (x3 : Int) (x4 : Int) (x5 : Int) (x6 : Int) (x7 : List (Int × Int)) (x8 : Int) (l : Int) (h0 : 0 ≤ l) (h1 : l ≤ 1048576) (q7 : x7.length ≤ maxLen) : g_lszTask ((x0, x1, x2, x3, x4, x5, x6, x7, x8), l) = some (if (((x7.length) : Nat) : Int) ≤ l then l - ((x7.length) : Nat) else -1, ()) := by
  show f_lszTask BIG _ = _
  rw [e_lszTask]
  dsimp only
  have s0 := sz_Order x5 x6 x7 x8 (l) (by omega) (by omega) q7
  by_cases c0 : (((x7.length) : Nat) : Int) ≤ l
  case neg =>
    rw [if_neg c0] at s0
    rw [s0, Option.bind_some, if_neg (by omega)]
    all_goals rfl
  rw [if_pos c0] at s0
  rw [s0, Option.bind_some]
  dsimp only
  rw [decide_eq_false (by omega), cond_false]
  rw [if_pos (by omega)]
  all_goals first | rfl | (congr 2; done) | (congr 2; omega)
theorem to_Task (x0 : Int) (x1 : Int) (x2 : Int) (x3 : Int) (x4 : Int) (x5 : Int) (x6 : Int) (x7 : List (Int × Int)) (x8 : Int) (h : (x7.length) ≤ 1048576) : g_ltoTask (x0, x1, x2, x3, x4, x5, x6, x7, x8) = some ((x0, x1, x2, x3, x4, x5, x6, x7, x8), ()) := by
  show f_ltoTask BIG _ = _
  rw [e_ltoTask]
  dsimp only
  rw [to_Ask x0 x1 x2 x3, Option.bind_some]
  rw [to_Order x5 x6 x7 x8 (by omega), Option.bind_some]
theorem eq_Task (x0 : Int) (x1 : Int) (x2 : Int) (x3 : Int) (x4 : Int) (x5 : Int) (x6 : Int) (x7 : List (Int × Int)) (x8 : Int) (h : (x7.length) ≤ 4294967296) : g_leqTask ((x0, x1, x2, x3, x4, x5, x6, x7, x8), (x0, x1, x2, x3, x4, x5, x6, x7, x8)) = some (true, ()) := by
  show f_leqTask BIG _ = _
  rw [e_leqTask]
  dsimp only
  rw [eq_Ask, Option.bind_some]
  rw [decide_eq_true rfl, Bool.not_true, cond_false]
  rw [decide_eq_true rfl, Bool.not_true, cond_false]
  rw [eq_Order x5 x6 x7 x8 (by omega), Option.bind_some]
  rw [Bool.not_true, cond_false]
theorem sz_Head (x0 : Int) (x1 : List (Int)) (x2 : List (Int × Int)) (x3 : List (List (Int))) (x4 : List (Int)) (x5 : Int) (x6 : Int) (x7 : Int) (x8 : Int) (x9 : Int) (x10 : Int) (x11 : Int) (x12 : List (Int × Int)) (x13 : Int) (x14 : List (Int × Int × Int × Int × Int × Int)) (l : Int) (h0 : 0 ≤ l) (h1 : l ≤ 1048576) (q1 : x1.length ≤ maxLen) (q2 : x2.length ≤ maxLen) (q3 : B_IntSS x3) (q4 : x4.length ≤ maxLen) (q12 : x12.length ≤ maxLen) (q14 : x14.length ≤ maxLen) : g_lszHead ((x0, x1, x2, x3, x4, x5, x6, x7, x8, x9, x10, x11, x12, x13, x14), l) = some (if (((x1.length + x2.length + z_IntSS x3 + x4.length + x12.length + x14.length) : Nat) : Int) ≤ l then l - ((x1.length + x2.length + z_IntSS x3 + x4.length + x12.length + x14.length) : Nat) else -1, ()) := by
  show f_lszHead BIG _ = _
  rw [e_lszHead]
  dsimp only
  have s0 := sz_IntS x1 (l) (by omega) (by omega) q1
  by_cases c0 : (((x1.length) : Nat) : Int) ≤ l
  case neg =>
    rw [if_neg c0] at s0
    rw [s0, Option.bind_some, if_neg (by omega)]
    all_goals rfl
  rw [if_pos c0] at s0
  rw [s0, Option.bind_some]
  dsimp only
  rw [decide_eq_false (by omega), cond_false]
  have s1 := sz_EdgeS x2 (l - ((x1.length) : Nat)) (by omega) (by omega) q2
  by_cases c1 : (((x2.length) : Nat) : Int) ≤ l - ((x1.length) : Nat)
  case neg =>
    rw [if_neg c1] at s1
    rw [s1, Option.bind_some, if_neg (by omega)]
    all_goals rfl
  rw [if_pos c1] at s1
  rw [s1, Option.bind_some]
  dsimp only
  rw [decide_eq_false (by omega), cond_false]
  have s2 := sz_IntSS x3 (l - ((x1.length) : Nat) - ((x2.length) : Nat)) (by omega) (by omega) q3
  by_cases c2 : (((z_IntSS x3) : Nat) : Int) ≤ l - ((x1.length) : Nat) - ((x2.length) : Nat)
  case neg =>
    rw [if_neg c2] at s2
    rw [s2, Option.bind_some, if_neg (by omega)]
    all_goals rfl
  rw [if_pos c2] at s2
  rw [s2, Option.bind_some]
  dsimp only
  rw [decide_eq_false (by omega), cond_false]
  have s3 := sz_IntS x4 (l - ((x1.length) : Nat) - ((x2.length) : Nat) - ((z_IntSS x3) : Nat)) (by omega) (by omega) q4
  by_cases c3 : (((x4.length) : Nat) : Int) ≤ l - ((x1.length) : Nat) - ((x2.length) : Nat) - ((z_IntSS x3) : Nat)
  case neg =>
    rw [if_neg c3] at s3
    rw [s3, Option.bind_some, if_neg (by omega)]
    all_goals rfl
  rw [if_pos c3] at s3
  rw [s3, Option.bind_some]
  dsimp only
  rw [decide_eq_false (by omega), cond_false]
  have s4 := sz_Task x5 x6 x7 x8 x9 x10 x11 x12 x13 (l - ((x1.length) : Nat) - ((x2.length) : Nat) - ((z_IntSS x3) : Nat) - ((x4.length) : Nat)) (by omega) (by omega) q12
  by_cases c4 : (((x12.length) : Nat) : Int) ≤ l - ((x1.length) : Nat) - ((x2.length) : Nat) - ((z_IntSS x3) : Nat) - ((x4.length) : Nat)
  case neg =>
    rw [if_neg c4] at s4
    rw [s4, Option.bind_some, if_neg (by omega)]
    all_goals rfl
  rw [if_pos c4] at s4
  rw [s4, Option.bind_some]
  dsimp only
  rw [decide_eq_false (by omega), cond_false]
  have s5 := sz_SaidS x14 (l - ((x1.length) : Nat) - ((x2.length) : Nat) - ((z_IntSS x3) : Nat) - ((x4.length) : Nat) - ((x12.length) : Nat)) (by omega) (by omega) q14
  by_cases c5 : (((x14.length) : Nat) : Int) ≤ l - ((x1.length) : Nat) - ((x2.length) : Nat) - ((z_IntSS x3) : Nat) - ((x4.length) : Nat) - ((x12.length) : Nat)
  case neg =>
    rw [if_neg c5] at s5
    rw [s5, Option.bind_some, if_neg (by omega)]
    all_goals rfl
  rw [if_pos c5] at s5
  rw [s5, Option.bind_some]
  dsimp only
  rw [decide_eq_false (by omega), cond_false]
  rw [if_pos (by omega)]
  all_goals first | rfl | (congr 2; done) | (congr 2; omega)
theorem to_Head (x0 : Int) (x1 : List (Int)) (x2 : List (Int × Int)) (x3 : List (List (Int))) (x4 : List (Int)) (x5 : Int) (x6 : Int) (x7 : Int) (x8 : Int) (x9 : Int) (x10 : Int) (x11 : Int) (x12 : List (Int × Int)) (x13 : Int) (x14 : List (Int × Int × Int × Int × Int × Int)) (h : (x1.length + x2.length + z_IntSS x3 + x4.length + x12.length + x14.length) ≤ 1048576) : g_ltoHead (x0, x1, x2, x3, x4, x5, x6, x7, x8, x9, x10, x11, x12, x13, x14) = some ((x0, x1, x2, x3, x4, x5, x6, x7, x8, x9, x10, x11, x12, x13, x14), ()) := by
  show f_ltoHead BIG _ = _
  rw [e_ltoHead]
  dsimp only
  rw [to_IntS x1 (by omega), Option.bind_some]
  rw [to_EdgeS x2 (by omega), Option.bind_some]
  rw [to_IntSS x3 (by omega), Option.bind_some]
  rw [to_IntS x4 (by omega), Option.bind_some]
  rw [to_Task x5 x6 x7 x8 x9 x10 x11 x12 x13 (by omega), Option.bind_some]
  rw [to_SaidS x14 (by omega), Option.bind_some]
theorem eq_Head (x0 : Int) (x1 : List (Int)) (x2 : List (Int × Int)) (x3 : List (List (Int))) (x4 : List (Int)) (x5 : Int) (x6 : Int) (x7 : Int) (x8 : Int) (x9 : Int) (x10 : Int) (x11 : Int) (x12 : List (Int × Int)) (x13 : Int) (x14 : List (Int × Int × Int × Int × Int × Int)) (h : (x1.length + x2.length + z_IntSS x3 + x4.length + x12.length + x14.length) ≤ 4294967296) : g_leqHead ((x0, x1, x2, x3, x4, x5, x6, x7, x8, x9, x10, x11, x12, x13, x14), (x0, x1, x2, x3, x4, x5, x6, x7, x8, x9, x10, x11, x12, x13, x14)) = some (true, ()) := by
  show f_leqHead BIG _ = _
  rw [e_leqHead]
  dsimp only
  rw [decide_eq_true rfl, Bool.not_true, cond_false]
  rw [eq_IntS x1 x1 (by omega), Option.bind_some]
  rw [decide_eq_true rfl, Bool.not_true, cond_false]
  rw [eq_EdgeS x2 x2 (by omega), Option.bind_some]
  rw [decide_eq_true rfl, Bool.not_true, cond_false]
  rw [eq_IntSS x3 x3 (by omega), Option.bind_some]
  rw [decide_eq_true rfl, Bool.not_true, cond_false]
  rw [eq_IntS x4 x4 (by omega), Option.bind_some]
  rw [decide_eq_true rfl, Bool.not_true, cond_false]
  rw [eq_Task x5 x6 x7 x8 x9 x10 x11 x12 x13 (by omega), Option.bind_some]
  rw [Bool.not_true, cond_false]
  rw [eq_SaidS x14 x14 (by omega), Option.bind_some]
  rw [decide_eq_true rfl, Bool.not_true, cond_false]
theorem h_isaidAt (l : List Sd) (k : Int) (hl : l.length ≤ 1048576) : ∃ r : Int, g_isaidAt (l, k) = some (r, ()) ∧ (∀ (x0 : Int) (x1 : List Int) (x2 : List Ed) (x3 : List (List Int)) (x4 : List Int) (x5 x6 x7 x8 x9 x10 x11 : Int) (x12 : List Ed) (x13 : Int), g_sl12Said ((x0, x1, x2, x3, x4, x5, x6, x7, x8, x9, x10, x11, x12, x13, l), k) = some (r, ())) ∧ r < (l.length : Int) ∧ -1 ≤ r := by
  have hm : maxLen = 9223372036854775807 := by decide
  have hf : ∀ (n : Nat), n = BIG → ∃ r : Unit ⊕ Int, loopT n (fun (self1 : Int → Option ((Unit) ⊕ (Int))) (x0 : Int) =>
    bif decide (x0 < (l.length : Int)) then
     bnd l.length x0 fun n2 =>
     Option.bind l[n2]? fun y3 =>
     bif decide (y3.1 = k) then
      some (Sum.inr x0)
     else self1 (IntKind.wrap .i64 (x0 + (1 : Int)))
    else some (Sum.inl ())) (0 : Int) = some r ∧ (∀ i, r = .inr i → 0 ≤ i ∧ i < (l.length : Int)) := by
    rintro n rfl
    have L := loop_rel (F := fun (self1 : Int → Option ((Unit) ⊕ (Int))) (x0 : Int) =>
      bif decide (x0 < (l.length : Int)) then
       bnd l.length x0 fun n2 =>
       Option.bind l[n2]? fun y3 =>
       bif decide (y3.1 = k) then
        some (Sum.inr x0)
       else self1 (IntKind.wrap .i64 (x0 + (1 : Int)))
      else some (Sum.inl ())) (fun x => ∃ i : Nat, x = i ∧ i ≤ l.length) (fun x => l.length - x.toNat) (fun _ b => ∀ i, b = .inr i → 0 ≤ i ∧ i < (l.length : Int)) (fun self x ⟨i, h1, h2⟩ hs => ?_) (n := BIG) (x := 0) (by simp [BIG]; omega) ⟨0, rfl, by simp⟩
    · obtain ⟨b, h1, h2⟩ := L
      exact ⟨b, h1, h2⟩
    · subst h1
      by_cases hi : i < l.length
      · simp only [show ((i : Int) < (l.length : Int)) from by omega, decide_true, cond_true]
        rw [bnd_nat hi, List.getElem?_eq_getElem hi, Option.bind_some]
        by_cases hk : l[i].1 = k
        · rw [decide_eq_true hk, cond_true]
          exact ⟨_, rfl, fun j hj => by cases hj; omega⟩
        · rw [decide_eq_false hk, cond_false, wr1 (by omega)]
          exact hs _ ⟨i + 1, rfl, hi⟩ (by simp; omega)
      · rw [decide_eq_false (by omega), cond_false]
        exact ⟨_, rfl, fun j hj => by cases hj⟩
  obtain ⟨r, h1, h2⟩ := hf BIG rfl
  cases r with
  | inl u =>
    refine ⟨-1, ?_, fun x0 x1 x2 x3 x4 x5 x6 x7 x8 x9 x10 x11 x12 x13 => ?_, by omega, by omega⟩
    · show f_isaidAt BIG _ = _
      rw [e_isaidAt, h1]; rfl
    · show f_sl12Said BIG _ = _
      rw [e_sl12Said, h1]; rfl
  | inr i =>
    have := h2 i rfl
    refine ⟨i, ?_, fun x0 x1 x2 x3 x4 x5 x6 x7 x8 x9 x10 x11 x12 x13 => ?_, this.2, by omega⟩
    · show f_isaidAt BIG _ = _
      rw [e_isaidAt, h1]; rfl
    · show f_sl12Said BIG _ = _
      rw [e_sl12Said, h1]; rfl
theorem h_iReplyOf (x0 : Int) (x1 : List Int) (x2 : List Ed) (x3 : List (List Int)) (x4 : List Int) (x5 x6 x7 x8 x9 x10 x11 : Int) (x12 : List Ed) (x13 : Int) (x14 : List (Int × Int × Int × Int × Int × Int)) (k : Int) (hl : x14.length ≤ 1048576) :
    ∃ r : Int × Bool, g_iReplyOf ((x0, x1, x2, x3, x4, x5, x6, x7, x8, x9, x10, x11, x12, x13, x14), k) = some (r, ()) ∧ g_sReplyOf ((x0, x1, x2, x3, x4, x5, x6, x7, x8, x9, x10, x11, x12, x13, x14), k) = some (r, ()) := by
  obtain ⟨r, h1, h2, h3, h4⟩ := h_isaidAt x14 k hl
  have hi : g_iReplyOf ((x0, x1, x2, x3, x4, x5, x6, x7, x8, x9, x10, x11, x12, x13, x14), k) = f_iReplyOf BIG ((x0, x1, x2, x3, x4, x5, x6, x7, x8, x9, x10, x11, x12, x13, x14), k) := rfl
  have hs : g_sReplyOf ((x0, x1, x2, x3, x4, x5, x6, x7, x8, x9, x10, x11, x12, x13, x14), k) = f_sReplyOf BIG ((x0, x1, x2, x3, x4, x5, x6, x7, x8, x9, x10, x11, x12, x13, x14), k) := rfl
  rw [hi, hs, e_iReplyOf, e_sReplyOf]
  dsimp only
  rw [h1, h2]
  simp only [Option.bind_some]
  by_cases hn : r < 0
  · rw [decide_eq_true hn]
    exact ⟨_, rfl, rfl⟩
  · rw [decide_eq_false hn, cond_false, bnd_ok (by omega) h3, List.getElem?_eq_getElem (by omega)]
    exact ⟨_, rfl, rfl⟩
theorem law_lFnExactReplyOf (x0 : Int) (x1 : List Int) (x2 : List Ed) (x3 : List (List Int)) (x4 : List Int) (x5 x6 x7 x8 x9 x10 x11 : Int) (x12 : List Ed) (x13 : Int) (x14 : List (Int × Int × Int × Int × Int × Int)) (k : Int)
    (q1 : x1.length ≤ maxLen) (q2 : x2.length ≤ maxLen) (q3 : B_IntSS x3) (q4 : x4.length ≤ maxLen) (q12 : x12.length ≤ maxLen) (q14 : x14.length ≤ maxLen) : g_lFnExactReplyOf ((x0, x1, x2, x3, x4, x5, x6, x7, x8, x9, x10, x11, x12, x13, x14), k) = some (true, ()) := by
  show f_lFnExactReplyOf BIG _ = _
  rw [e_lFnExactReplyOf]
  have hs := sz_Head x0 x1 x2 x3 x4 x5 x6 x7 x8 x9 x10 x11 x12 x13 x14 1048576 (by omega) (by omega) q1 q2 q3 q4 q12 q14
  by_cases hz : ((x1.length + x2.length + z_IntSS x3 + x4.length + x12.length + x14.length : Nat) : Int) ≤ 1048576
  case neg =>
    rw [if_neg hz] at hs
    rw [hs]; rfl
  rw [if_pos hz] at hs
  have hz' : x1.length + x2.length + z_IntSS x3 + x4.length + x12.length + x14.length ≤ 1048576 := by omega
  obtain ⟨r, h1, h2⟩ := h_iReplyOf x0 x1 x2 x3 x4 x5 x6 x7 x8 x9 x10 x11 x12 x13 x14 k (by omega)
  simp only [hs, Option.bind_some, decide_eq_false (show ¬ ((1048576 : Int) - ((x1.length + x2.length + z_IntSS x3 + x4.length + x12.length + x14.length : Nat) : Int) < 0) from by omega), cond_false, to_Head x0 x1 x2 x3 x4 x5 x6 x7 x8 x9 x10 x11 x12 x13 x14 hz', h1, h2, decide_true, beq_self_eq_true, Bool.not_true, eq_Head x0 x1 x2 x3 x4 x5 x6 x7 x8 x9 x10 x11 x12 x13 x14 (by omega)]
end Go.Fw
