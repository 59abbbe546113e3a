/- What the given functions come to. No conditions. -/
import Derived.Test.YthgfbaannligeaaX0
import Derived.IntWalk
set_option linter.unusedVariables false
set_option linter.unusedSimpArgs false
namespace Go.Fw

theorem loop_rel {X B : Type} {F : (X → Option B) → X → Option B} (I : X → Prop) (μ : X → Nat) (Q : X → B → Prop)
    (h : ∀ self x, I x → (∀ y, I y → μ y < μ x → ∃ b, self y = some b ∧ Q y b) → ∃ b, F self x = some b ∧ Q x b) : ∀ {n : Nat} {x : X}, μ x < n → I x → ∃ b, loopT n F x = some b ∧ Q x b
  | 0, _, hn, _ => absurd hn (Nat.not_lt_zero _)
  | n + 1, x, hn, hi => h (it F n) x hi fun _ hy hm => loop_rel I μ Q h (n := n) (by omega) hy
theorem loop_eq {X B : Type} {F : (X → Option B) → X → Option B} (I : X → Prop) (μ : X → Nat) (R : X → B)
    (h : ∀ self x, I x → (∀ y, I y → μ y < μ x → self y = some (R y)) → F self x = some (R x)) {n : Nat} {x : X} (hn : μ x < n) (hi : I x) : loopT n F x = some (R x) := by
  obtain ⟨b, h1, h2⟩ := loop_rel (F := F) I μ (fun x b => b = R x) (fun self x hx hs => ⟨_, h self x hx fun y hy hm => by obtain ⟨b, h1, h2⟩ := hs y hy hm; rw [h1, h2], rfl⟩) hn hi
  rw [h1, h2]
theorem wr {n : Int} (h : -9223372036854775808 ≤ n) (h' : n ≤ 9223372036854775807) : IntKind.wrap .i64 n = n := by
  rw [IntKind.wrap_i64]; omega
theorem wr1 {i : Nat} (h : i < maxLen) : IntKind.wrap .i64 ((i : Int) + 1) = ((i + 1 : Nat) : Int) := by
  have : maxLen = 9223372036854775807 := by decide
  rw [wr (by omega) (by omega)]; rfl
theorem bnd_ok {B : Type} {len : Nat} {i : Int} {k : Nat → Option B} (h : 0 ≤ i) (h' : i < len) : bnd len i k = k i.toNat := by
  unfold bnd
  rw [if_pos ⟨h, by omega⟩]
theorem bnd_nat {B : Type} {len : Nat} {i : Nat} {k : Nat → Option B} (h' : i < len) : bnd len (i : Int) k = k i := by
  rw [bnd_ok (Int.natCast_nonneg i) (by omega)]
  simp
/-- A loop that copies a row. -/
theorem cpLoop {α : Type} (a : List α) (hl : a.length < 18446744073709551616) {z : α} {F : (List α × Int → Option (List α)) → List α × Int → Option (List α)}
    (hF : ∀ self out (i : Nat) y, out.length = a.length → a[i]? = some y → F self (out, (i : Int)) = self (out.set i y, ((i + 1 : Nat) : Int)))
    (hE : ∀ self out, out.length = a.length → F self (out, (a.length : Int)) = some out) : loopT BIG F (List.replicate a.length z, 0) = some a := by
  have := loop_eq (F := F) (fun x => ∃ i : Nat, x.2 = i ∧ i ≤ a.length ∧ x.1.length = a.length ∧ x.1.take i = a.take i) (fun x => a.length - x.2.toNat) (fun _ => a) (fun self x ⟨i, h1, h2, h3, h4⟩ hs => ?_) (n := BIG) (x := (List.replicate a.length z, 0)) (by simp; exact hl) ⟨0, rfl, by simp, by simp, by simp⟩
  · exact this
  · obtain ⟨out, j⟩ := x
    simp only at h1 h2 h3 h4
    subst h1
    by_cases hi : i < a.length
    · rw [hF self out i a[i] h3 (List.getElem?_eq_getElem hi)]
      refine hs _ ⟨i + 1, rfl, hi, by simpa using h3, ?_⟩ (by simp; omega)
      rw [List.take_set, List.take_succ_eq_append_getElem (by omega : i < out.length), List.take_succ_eq_append_getElem hi, h4, List.set_append_right _ _ (by simp; omega)]
      simp [Nat.min_eq_left h2]
    · have : i = a.length := by omega
      subst this
      rw [hE self out h3]
      rw [List.take_of_length_le (by omega), List.take_of_length_le (by omega)] at h4
      rw [h4]
/-- A loop that goes through a row, and is left at the first place where it is told so. -/
theorem allLoop {α B : Type} (a : List α) (hl : a.length < 18446744073709551616) {F : (Int → Option (Unit ⊕ B)) → Int → Option (Unit ⊕ B)} (p : Nat → Bool) (b : B)
    (hF : ∀ self (i : Nat) y, a[i]? = some y → F self (i : Int) = if p i then self ((i + 1 : Nat) : Int) else some (.inr b))
    (hE : ∀ self, F self (a.length : Int) = some (.inl ())) : loopT BIG F 0 = some (if ∀ i, i < a.length → p i = true then .inl () else .inr b) := by
  have hh := loop_rel (F := F) (fun x => ∃ i : Nat, x = i ∧ i ≤ a.length) (fun x => a.length - x.toNat) (fun x r => ((∀ i : Nat, x ≤ (i : Int) → i < a.length → p i = true) ∧ r = .inl ()) ∨ ((∃ i : Nat, i < a.length ∧ p i = false) ∧ r = .inr b)) (fun self x ⟨i, h1, h2⟩ hs => ?_) (n := BIG) (x := 0) (by simp; exact hl) ⟨0, rfl, by simp⟩
  · obtain ⟨r, hr, hq⟩ := hh
    rw [hr]
    congr 1
    rcases hq with ⟨h1, rfl⟩ | ⟨⟨i, h1, h2⟩, rfl⟩
    · rw [if_pos fun i hi => h1 i (by omega) hi]
    · rw [if_neg]
      intro h
      rw [h i h1] at h2; cases h2
  · subst h1
    by_cases hi : i < a.length
    · rw [hF self i a[i] (List.getElem?_eq_getElem hi)]
      cases hp : p i with
      | true =>
        rw [if_pos rfl]
        obtain ⟨r, hr, hq⟩ := hs _ ⟨i + 1, rfl, hi⟩ (by simp; omega)
        refine ⟨r, hr, ?_⟩
        rcases hq with ⟨h1, rfl⟩ | h1
        · refine .inl ⟨fun k hk hk' => ?_, rfl⟩
          by_cases h : k = i
          · subst h; exact hp
          · exact h1 k (by omega) hk'
        · exact .inr h1
      | false => exact ⟨_, rfl, .inr ⟨⟨i, hi, hp⟩, rfl⟩⟩
    · have : i = a.length := by omega
      subst this
      exact ⟨_, hE self, .inl ⟨fun k hk hk' => by omega, rfl⟩⟩
theorem maxLen_lt : maxLen < 18446744073709551616 := by decide
/-- Two rows that are looked at side by side. -/
theorem eqLoop {α B : Type} [DecidableEq α] (a b : List α) (hl : a.length ≤ maxLen) (hab : a.length = b.length) {F : (Int → Option (Unit ⊕ B)) → Int → Option (Unit ⊕ B)} (r : B)
    (hF : ∀ self (i : Nat) x y, a[i]? = some x → b[i]? = some y → F self (i : Int) = if x = y then self ((i + 1 : Nat) : Int) else some (.inr r))
    (hE : ∀ self, F self (a.length : Int) = some (.inl ())) : loopT BIG F 0 = some (if a = b then .inl () else .inr r) := by
  rw [allLoop a (Nat.lt_of_le_of_lt hl maxLen_lt) (fun i => decide (a[i]? = b[i]?)) r (fun self i y hy => ?_) hE]
  · congr 1
    by_cases h : a = b
    · subst h; simp
    · rw [if_neg h, if_neg]
      intro h'
      apply h
      apply List.ext_getElem? fun i => ?_
      by_cases hi : i < a.length
      · simpa using h' i hi
      · rw [List.getElem?_eq_none (by omega), List.getElem?_eq_none (by omega)]
  · have hi := (List.getElem?_eq_some_iff.1 hy).1
    have hb : b[i]? = some (b[i]'(by omega)) := List.getElem?_eq_getElem (by omega)
    rw [hF self i y _ hy hb, hy, hb]
    simp
/-- A loop that takes from what is left. -/
theorem szLoop {α B : Type} (a : List α) (z : α → Nat) (b : B) (l0 : Int) (h0 : 0 ≤ l0) (h0' : l0 ≤ 1048576) (hl : a.length < 18446744073709551616) {F : (Int × Int → Option (Int ⊕ B)) → Int × Int → Option (Int ⊕ B)}
    (hF : ∀ self (i : Nat) (l : Int) y, a[i]? = some y → 0 ≤ l → l ≤ 1048576 → F self (l, (i : Int)) = if (z y : Int) ≤ l then self (l - z y, ((i + 1 : Nat) : Int)) else some (.inr b))
    (hE : ∀ self l, F self (l, (a.length : Int)) = some (.inl l)) :
    loopT BIG F (l0, 0) = some (if ((a.map z).sum : Int) ≤ l0 then .inl (l0 - ((a.map z).sum : Nat)) else .inr b) := by
  have := loop_eq (F := F) (fun x => ∃ i : Nat, x.2 = i ∧ i ≤ a.length ∧ 0 ≤ x.1 ∧ x.1 ≤ 1048576) (fun x => a.length - x.2.toNat) (fun x => if (((a.drop x.2.toNat).map z).sum : Int) ≤ x.1 then .inl (x.1 - (((a.drop x.2.toNat).map z).sum : Nat)) else .inr b)
    (fun self x ⟨i, h1, h2, h3, h4⟩ hs => ?_) (n := BIG) (x := (l0, 0)) (by simp; exact hl) ⟨0, rfl, by simp, h0, h0'⟩
  · simpa using this
  · obtain ⟨l, j⟩ := x
    simp only at h1 h3 h4
    subst h1
    simp only [Int.toNat_natCast]
    by_cases hi : i < a.length
    · have hy := List.getElem?_eq_getElem hi
      rw [hF self i l _ hy h3 h4, List.drop_eq_getElem_cons hi, List.map_cons, List.sum_cons]
      by_cases hz : (z a[i] : Int) ≤ l
      · rw [if_pos hz, hs _ ⟨i + 1, rfl, hi, by simp only; omega, by simp only; omega⟩ (by simp only [Int.toNat_natCast]; omega)]
        simp only [Int.toNat_natCast]
        by_cases hq : (((a.drop (i + 1)).map z).sum : Int) ≤ l - z a[i]
        · rw [if_pos hq, if_pos (by omega)]
          congr 2
          omega
        · rw [if_neg hq, if_neg (by omega)]
      · rw [if_neg hz, if_neg (by omega)]
    · have : i = a.length := by omega
      subst this
      rw [hE self l, List.drop_length]
      simp [h3]
/-- Two vertices hang together by edges. -/
inductive Con (E : List (Int × Int)) : Int → Int → Prop
  | refl (v : Int) : Con E v v
  | fwd {u v w : Int} : Con E u v → (v, w) ∈ E → Con E u w
  | bwd {u v w : Int} : Con E u v → (w, v) ∈ E → Con E u w
theorem Con.trans {E : List (Int × Int)} {u v w : Int} (h : Con E u v) (h' : Con E v w) : Con E u w := by
  induction h' with
  | refl => exact h
  | fwd _ he ih => exact .fwd ih he
  | bwd _ he ih => exact .bwd ih he
theorem Con.symm {E : List (Int × Int)} {u v : Int} (h : Con E u v) : Con E v u := by
  induction h with
  | refl => exact .refl _
  | fwd _ he ih => exact Con.trans (.bwd (.refl _) he) ih
  | bwd _ he ih => exact Con.trans (.fwd (.refl _) he) ih
theorem Con.mono {E E' : List (Int × Int)} (hE : ∀ e, e ∈ E → e ∈ E') {u v : Int} (h : Con E u v) : Con E' u v := by
  induction h with
  | refl => exact .refl _
  | fwd _ he ih => exact .fwd ih (hE _ he)
  | bwd _ he ih => exact .bwd ih (hE _ he)
theorem Con.of {E : List (Int × Int)} {u v : Int} (h : (u, v) ∈ E) : Con E u v := .fwd (.refl _) h
theorem Con.nil {u v : Int} (h : Con [] u v) : u = v := by
  induction h with
  | refl => rfl
  | fwd _ he _ => cases he
  | bwd _ he _ => cases he
/-- Edges of so many vertices. -/
def EIn (n : Nat) (E : List (Int × Int)) : Prop := ∀ e, e ∈ E → 0 ≤ e.1 ∧ e.1 < n ∧ 0 ≤ e.2 ∧ e.2 < n
theorem Con.range {n : Nat} {E : List (Int × Int)} (hE : EIn n E) {u v : Int} (h : Con E u v) (hu : 0 ≤ u ∧ u < n) : 0 ≤ v ∧ v < n := by
  induction h with
  | refl => exact hu
  | fwd _ he _ => exact ⟨(hE _ he).2.2.1, (hE _ he).2.2.2⟩
  | bwd _ he _ => exact ⟨(hE _ he).1, (hE _ he).2.1⟩
/-- Labels: to each vertex the least one that it hangs together with. -/
def Lab (n : Nat) (E : List (Int × Int)) (l : List Int) : Prop :=
  l.length = n ∧ ∀ (v : Nat) (x : Int), l[v]? = some x → Con E v x ∧ 0 ≤ x ∧ ∀ u : Int, 0 ≤ u → Con E v u → x ≤ u
theorem Lab.le {n : Nat} {E : List (Int × Int)} {l : List Int} (h : Lab n E l) {v : Nat} {x : Int} (hx : l[v]? = some x) : x ≤ v :=
  (h.2 v x hx).2.2 v (Int.natCast_nonneg v) (.refl _)
theorem Lab.lt {n : Nat} {E : List (Int × Int)} {l : List Int} (h : Lab n E l) {v : Nat} {x : Int} (hx : l[v]? = some x) : 0 ≤ x ∧ x < n := by
  have h1 := h.le hx
  have h2 := (List.getElem?_eq_some_iff.1 hx).1
  have h3 := (h.2 v x hx).2.1
  have h4 := h.1
  omega
theorem Lab.iff {n : Nat} {E : List (Int × Int)} {l : List Int} (h : Lab n E l) {u v : Nat} {x y : Int} (hx : l[u]? = some x) (hy : l[v]? = some y) : x = y ↔ Con E u v := by
  have h1 := h.2 u x hx
  have h2 := h.2 v y hy
  constructor
  · intro e
    subst e
    exact h1.1.trans h2.1.symm
  · intro c
    have a := h1.2.2 y h2.2.1 (c.trans h2.1)
    have b := h2.2.2 x h1.2.1 (c.symm.trans h1.1)
    omega
/-- A label is its own label. -/
theorem Lab.self {n : Nat} {E : List (Int × Int)} {l : List Int} (h : Lab n E l) {v : Nat} {x : Int} (hx : l[v]? = some x) : l[x.toNat]? = some x := by
  have h1 := h.lt hx
  have hi : x.toNat < l.length := by rw [h.1]; omega
  rw [List.getElem?_eq_getElem hi]
  have h2 := h.2 v x hx
  have hc : Con E (x.toNat : Int) v := by rw [Int.toNat_of_nonneg h1.1]; exact h2.1.symm
  rw [(h.iff (List.getElem?_eq_getElem hi) hx).2 hc]
/-- Labels without edges. -/
def lab0 (n : Nat) : List Int := (List.range n).map fun (i : Nat) => (i : Int)
theorem lab0_get {n v : Nat} {x : Int} (h : (lab0 n)[v]? = some x) : v < n ∧ x = v := by
  have hi := (List.getElem?_eq_some_iff.1 h).1
  simp only [lab0, List.length_map, List.length_range] at hi
  simp only [lab0, List.getElem?_map, List.getElem?_range hi, Option.map_some, Option.some.injEq] at h
  exact ⟨hi, h.symm⟩
theorem lab0_len (n : Nat) : (lab0 n).length = n := by simp [lab0]
theorem Lab.zero (n : Nat) : Lab n [] (lab0 n) := by
  refine ⟨lab0_len n, fun v x h => ?_⟩
  obtain ⟨_, rfl⟩ := lab0_get h
  exact ⟨.refl _, Int.natCast_nonneg v, fun u _ h => by rw [h.nil]; exact Int.le_refl _⟩
section
variable {n : Nat} {E : List (Int × Int)} {L : List Int}
/-- On the way down to the labels. -/
def Dn (n : Nat) (E : List (Int × Int)) (l : List Int) : Prop := l.length = n ∧ ∀ (v : Nat) (x : Int), l[v]? = some x → Con E v x ∧ 0 ≤ x
theorem Dn.set {l : List Int} (h : Dn n E l) {v : Nat} {x : Int} (hc : Con E v x) (h0 : 0 ≤ x) : Dn n E (l.set v x) := by
  refine ⟨by simp [h.1], fun u y hu => ?_⟩
  rw [List.getElem?_set] at hu
  split at hu
  · subst v
    split at hu
    · cases hu; exact ⟨hc, h0⟩
    · cases hu
  · exact h.2 u y hu
end
theorem h_sl01In (a b c : Int) : g_sl01In (a, b, c) = some (decide (b ≤ a) && decide (a ≤ c), ()) := by
  show f_sl01In BIG _ = _
  rw [e_sl01In]
  cases decide (b ≤ a) <;> rfl
theorem h_iin (a b c : Int) : g_iin (a, b, c) = some (decide (b ≤ a) && decide (a ≤ c), ()) := by
  show f_iin BIG _ = _
  rw [e_iin]
  cases decide (b ≤ a) <;> rfl
abbrev Ed := Int × Int
abbrev Sd := Int × Int × Int × Int × Int × Int
open Classical in
open Classical in
def inB (a b c : Int) : Bool := decide (b ≤ a) && decide (a ≤ c)
theorem h_sl01In' (a b c : Int) : g_sl01In (a, b, c) = some (inB a b c, ()) := h_sl01In a b c
theorem h_iin' (a b c : Int) : g_iin (a, b, c) = some (inB a b c, ()) := h_iin a b c
theorem inB_t {a b c : Int} : inB a b c = true ↔ b ≤ a ∧ a ≤ c := by simp [inB]
def edB (n : Int) (e : Ed) : Bool := inB n 1 12 && (inB e.1 0 (n - 1) && (inB e.2 0 (n - 1) && decide (e.1 < e.2)))
theorem h_iEdgeOk (n : Int) (e : Ed) : g_iEdgeOk (n, e) = some (edB n e, ()) := by
  show f_iEdgeOk BIG _ = _
  rw [e_iEdgeOk, h_iin', Option.bind_some]
  unfold edB
  cases h : inB n 1 12 with
  | false => rfl
  | true =>
    have := inB_t.1 h
    rw [wr (by omega) (by omega)]
    simp only [h_iin', Option.bind_some, cond_true, Bool.true_and]
    cases inB e.1 0 (n - 1) <;> cases inB e.2 0 (n - 1) <;> rfl
theorem h_sEdgeOk (n : Int) (e : Ed) : g_sEdgeOk (n, e) = some (edB n e, ()) := by
  show f_sEdgeOk BIG _ = _
  rw [e_sEdgeOk, h_sl01In', Option.bind_some]
  unfold edB
  cases h : inB n 1 12 with
  | false => rfl
  | true =>
    have := inB_t.1 h
    rw [wr (by omega) (by omega)]
    simp only [h_sl01In', Option.bind_some, cond_true, Bool.true_and]
    cases inB e.1 0 (n - 1) <;> cases inB e.2 0 (n - 1) <;> rfl
def lsB (x y : Ed) : Bool := decide (x.1 < y.1) || (decide (x.1 = y.1) && decide (x.2 < y.2))
theorem h_iahead (x y : Ed) : g_iahead (x, y) = some (lsB x y, ()) := by
  show f_iahead BIG _ = _
  rw [e_iahead]
  unfold lsB
  cases decide (x.1 < y.1) <;> cases decide (x.1 = y.1) <;> rfl
theorem h_sl05Less (x y : Ed) : g_sl05Less (x, y) = some (lsB x y, ()) := by
  show f_sl05Less BIG _ = _
  rw [e_sl05Less]
  unfold lsB
  cases decide (x.1 < y.1) <;> cases decide (x.1 = y.1) <;> rfl
def eP (n : Int) (es : List Ed) (i : Nat) : Bool := match es[i]? with
  | some y => edB n y && (match i with
    | 0 => true
    | j + 1 => match es[j]? with
      | some x => lsB x y
      | none => false)
  | none => false
theorem eP_0 {n : Int} {es : List Ed} {y : Ed} (h : es[0]? = some y) : eP n es 0 = edB n y := by
  unfold eP; rw [h]; simp
theorem eP_s {n : Int} {es : List Ed} {x y : Ed} {j : Nat} (h : es[j + 1]? = some y) (h' : es[j]? = some x) : eP n es (j + 1) = (edB n y && lsB x y) := by
  unfold eP; rw [h]; simp only [h']
def eOk (n : Int) (es : List Ed) : Bool := if ∀ i, i < es.length → eP n es i = true then decide ((es.length : Int) ≤ 66) else false
theorem eOk_len {n : Int} {es : List Ed} (h : eOk n es = true) : es.length ≤ 66 := by
  unfold eOk at h
  split at h
  · rw [decide_eq_true_eq] at h; omega
  · cases h
theorem h_iedgesOk (n : Int) (es : List Ed) (hl : es.length ≤ 1048576) : g_iedgesOk (n, es) = some (eOk n es, ()) := by
  have hm : maxLen = 9223372036854775807 := by decide
  show f_iedgesOk BIG _ = _
  rw [e_iedgesOk, allLoop es (by omega) (eP n es) false]
  · unfold eOk
    split <;> rfl
  · intro self i y hy
    have hi := (List.getElem?_eq_some_iff.1 hy).1
    simp only [show ((i : Int) < (es.length : Int)) from by omega, decide_true, cond_true]
    rw [bnd_nat hi, hy, Option.bind_some, h_iEdgeOk, wr1 (by omega)]
    cases i with
    | zero =>
      rw [eP_0 hy]
      cases edB n y <;> simp
    | succ j =>
      have hj : es[j]? = some (es[j]'(by omega)) := List.getElem?_eq_getElem (by omega)
      rw [eP_s hy hj, show (((j + 1 : Nat) : Int) - 1) = (j : Int) from by omega, wr (n := (j : Int)) (by omega) (by omega)]
      cases hb : edB n y with
      | false => simp
      | true =>
        simp only [Option.bind_some, Bool.not_true, cond_false, show (0 : Int) < ((j + 1 : Nat) : Int) from by omega, decide_true, cond_true, Bool.true_and]
        rw [bnd_nat (by omega), hj]
        simp only [Option.bind_some]
        simp only [Option.bind_some, h_iahead]
        cases lsB _ y <;> rfl
  · intro self
    simp
theorem h_sl05Edges (n : Int) (es : List Ed) (hl : es.length ≤ 1048576) : g_sl05Edges (n, es) = some (eOk n es, ()) := by
  have hm : maxLen = 9223372036854775807 := by decide
  show f_sl05Edges BIG _ = _
  rw [e_sl05Edges, allLoop es (by omega) (eP n es) false]
  · unfold eOk
    split <;> rfl
  · intro self i y hy
    have hi := (List.getElem?_eq_some_iff.1 hy).1
    simp only [show ((i : Int) < (es.length : Int)) from by omega, decide_true, cond_true]
    rw [bnd_nat hi, hy, Option.bind_some, h_sEdgeOk, wr1 (by omega)]
    cases i with
    | zero =>
      rw [eP_0 hy]
      cases edB n y <;> simp
    | succ j =>
      have hj : es[j]? = some (es[j]'(by omega)) := List.getElem?_eq_getElem (by omega)
      rw [eP_s hy hj, show (((j + 1 : Nat) : Int) - 1) = (j : Int) from by omega, wr (n := (j : Int)) (by omega) (by omega)]
      cases hb : edB n y with
      | false => simp
      | true =>
        simp only [Option.bind_some, Bool.not_true, cond_false, show (0 : Int) < ((j + 1 : Nat) : Int) from by omega, decide_true, cond_true, Bool.true_and]
        rw [bnd_nat (by omega), hj]
        simp only [Option.bind_some]
        rw [bnd_nat hi, hy]
        simp only [Option.bind_some, h_sl05Less]
        cases lsB _ y <;> rfl
  · intro self
    simp
abbrev Or' := Int × Int × List (Int × Int) × Int
def ordB (n : Int) (o : Or') : Bool := inB n 1 12 && (inB o.1 1 100000 && (inB o.2.1 1 4 && (eOk n o.2.2.1 && (if o.2.1 = 3 then decide (o.2.2.1.length = 0) && inB o.2.2.2 0 (n - 1) else if o.2.1 = 4 then decide (0 < o.2.2.1.length) && decide (o.2.2.2 = 0) else decide (o.2.2.1.length = 1) && decide (o.2.2.2 = 0)))))
theorem h_sOrderOk (n : Int) (o : Or') (hl : o.2.2.1.length ≤ 1048576) : g_sOrderOk (n, o) = some (ordB n o, ()) := by
  show f_sOrderOk BIG _ = _
  rw [e_sOrderOk]
  simp only [h_sl01In', h_sl05Edges n _ hl, Option.bind_some]
  unfold ordB
  cases h : inB n 1 12 with
  | false => rfl
  | true =>
    have := inB_t.1 h
    rw [wr (by omega) (by omega)]
    cases h1 : inB o.1 1 100000 with
    | false => rfl
    | true =>
      cases h2 : inB o.2.1 1 4 with
      | false => rfl
      | true =>
        cases h3 : eOk n o.2.2.1 with
        | false => rfl
        | true =>
          simp only [Bool.not_true, cond_false, Option.bind_some, Bool.true_and]
          by_cases k3 : o.2.1 = 3
          · rw [if_pos k3, decide_eq_true k3, cond_true]
            by_cases hz : o.2.2.1.length = 0
            · rw [decide_eq_true hz, decide_eq_true (by omega)]; rfl
            · rw [decide_eq_false hz, decide_eq_false (by omega)]; rfl
          · rw [if_neg k3, decide_eq_false k3, cond_false]
            by_cases k4 : o.2.1 = 4
            · rw [if_pos k4, decide_eq_true k4, cond_true]
              by_cases hz : 0 < o.2.2.1.length
              · rw [decide_eq_true hz, decide_eq_true (by omega)]; rfl
              · rw [decide_eq_false hz, decide_eq_false (by omega)]; rfl
            · rw [if_neg k4, decide_eq_false k4, cond_false]
              by_cases hz : o.2.2.1.length = 1
              · rw [decide_eq_true hz, decide_eq_true (by omega)]; rfl
              · rw [decide_eq_false hz, decide_eq_false (by omega)]; rfl
theorem h_iOrderOk (n : Int) (o : Or') (hl : o.2.2.1.length ≤ 1048576) : g_iOrderOk (n, o) = some (ordB n o, ()) := by
  show f_iOrderOk BIG _ = _
  rw [e_iOrderOk]
  simp only [h_iin', h_iedgesOk n _ hl, Option.bind_some]
  unfold ordB
  cases h : inB n 1 12 with
  | false => rfl
  | true =>
    have := inB_t.1 h
    rw [wr (by omega) (by omega)]
    cases h1 : inB o.1 1 100000 with
    | false => rfl
    | true =>
      cases h3 : eOk n o.2.2.1 with
      | false => simp
      | true =>
        simp only [Bool.not_true, cond_false, Option.bind_some, Bool.true_and]
        by_cases k3 : o.2.1 = 3
        · have h2 : inB o.2.1 1 4 = true := inB_t.2 (by omega)
          rw [h2, if_pos k3, decide_eq_true k3]
          rw [decide_eq_false (by omega : ¬ o.2.1 = 1), decide_eq_false (by omega : ¬ o.2.1 = 2)]
          by_cases hz : o.2.2.1.length = 0
          · rw [decide_eq_true hz, decide_eq_true (show (o.2.2.1.length : Int) = 0 from by omega)]; by_cases hv : o.2.2.2 = 0 <;> simp [hv]
          · rw [decide_eq_false hz, decide_eq_false (show ¬ (o.2.2.1.length : Int) = 0 from by omega)]; by_cases hv : o.2.2.2 = 0 <;> simp [hv]
        · rw [if_neg k3, decide_eq_false k3]
          by_cases hv : o.2.2.2 = 0
          · simp only [hv, decide_true, Bool.not_true, cond_false, Option.bind_some, Bool.and_true]
            by_cases k4 : o.2.1 = 4
            · have h2 : inB o.2.1 1 4 = true := inB_t.2 (by omega)
              rw [h2, if_pos k4, decide_eq_true k4, decide_eq_false (by omega : ¬ o.2.1 = 1), decide_eq_false (by omega : ¬ o.2.1 = 2)]
              simp
            · rw [if_neg k4, decide_eq_false k4]
              by_cases k1 : o.2.1 = 1
              · have h2 : inB o.2.1 1 4 = true := inB_t.2 (by omega)
                rw [h2, decide_eq_true k1]
                simp
                omega
              · by_cases k2 : o.2.1 = 2
                · have h2 : inB o.2.1 1 4 = true := inB_t.2 (by omega)
                  rw [h2, decide_eq_false k1, decide_eq_true k2]
                  simp
                  omega
                · have h2 : inB o.2.1 1 4 = false := by
                    cases hh : inB o.2.1 1 4 with
                    | false => rfl
                    | true => have := inB_t.1 hh; omega
                  rw [h2, decide_eq_false k1, decide_eq_false k2]
                  rfl
          · simp [hv]
def lbP (l : List Int) (i : Nat) : Bool := match l[i]? with
  | some y => inB y 0 i && (match l[y.toNat]? with
    | some z => decide (z = y)
    | none => false)
  | none => false
theorem lbP_eq {l : List Int} {i : Nat} {y z : Int} (h : l[i]? = some y) (h' : l[y.toNat]? = some z) : lbP l i = (inB y 0 i && decide (z = y)) := by
  unfold lbP; rw [h]; simp only [h']
theorem lbP_f {l : List Int} {i : Nat} {y : Int} (h : l[i]? = some y) (h' : inB y 0 i = false) : lbP l i = false := by
  unfold lbP; rw [h]; simp only [h', Bool.false_and]
def lbOk (n : Int) (l : List Int) : Bool := if (l.length : Int) = n then (if ∀ i, i < l.length → lbP l i = true then true else false) else false
theorem h_ilabelsOk (n : Int) (l : List Int) (hl : l.length ≤ 1048576) : g_ilabelsOk (n, l) = some (lbOk n l, ()) := by
  have hm : maxLen = 9223372036854775807 := by decide
  show f_ilabelsOk BIG _ = _
  rw [e_ilabelsOk]
  unfold lbOk
  by_cases hn : (l.length : Int) = n
  · rw [if_pos hn, decide_eq_true hn, Bool.not_true, cond_false, allLoop l (by omega) (lbP l) false]
    · split <;> rfl
    · intro self i y hy
      have hi := (List.getElem?_eq_some_iff.1 hy).1
      simp only [show ((i : Int) < (l.length : Int)) from by omega, decide_true, cond_true]
      rw [bnd_nat hi, hy, Option.bind_some, h_iin', wr1 (by omega)]
      cases hb : inB y 0 (i : Int) with
      | false => rw [lbP_f hy hb]; simp
      | true =>
        have := inB_t.1 hb
        have hz : l[y.toNat]? = some (l[y.toNat]'(by omega)) := List.getElem?_eq_getElem (by omega)
        rw [lbP_eq hy hz, hb]
        simp only [Option.bind_some, Bool.not_true, cond_false, Bool.true_and]
        rw [bnd_ok (by omega) (by omega), hz]
        simp only [Option.bind_some]
        by_cases hd : l[y.toNat]'(by omega) = y <;> simp [hd]
    · intro self
      simp
  · rw [if_neg hn, decide_eq_false hn]; rfl
theorem h_sl09Labels (n : Int) (l : List Int) (hl : l.length ≤ 1048576) : g_sl09Labels (n, l) = some (lbOk n l, ()) := by
  have hm : maxLen = 9223372036854775807 := by decide
  show f_sl09Labels BIG _ = _
  rw [e_sl09Labels]
  unfold lbOk
  by_cases hn : (l.length : Int) = n
  · rw [if_pos hn, decide_eq_true hn, Bool.not_true, cond_false]
    subst hn
    rw [allLoop l (by omega) (lbP l) false]
    · split <;> rfl
    · intro self i y hy
      have hi := (List.getElem?_eq_some_iff.1 hy).1
      simp only [show ((i : Int) < (l.length : Int)) from by omega, decide_true, cond_true]
      simp only [bnd_nat hi, hy, Option.bind_some, h_sl01In', wr1 (show i < maxLen from by omega)]
      cases hb : inB y 0 (i : Int) with
      | false => rw [lbP_f hy hb]; simp
      | true =>
        have := inB_t.1 hb
        have hz : l[y.toNat]? = some (l[y.toNat]'(by omega)) := List.getElem?_eq_getElem (by omega)
        rw [lbP_eq hy hz, hb]
        simp only [Option.bind_some, Bool.not_true, cond_false, Bool.true_and]
        rw [bnd_ok (by omega) (by omega), hz]
        simp only [Option.bind_some]
        by_cases hd : l[y.toNat]'(by omega) = y <;> simp [hd]
    · intro self
      simp
  · rw [if_neg hn, decide_eq_false hn]; rfl
theorem lsB_iff (x y : Ed) : lsB x y = true ↔ x.1 < y.1 ∨ (x.1 = y.1 ∧ x.2 < y.2) := by simp [lsB]
theorem lsB_trans {x y z : Ed} (h : lsB x y = true) (h' : lsB y z = true) : lsB x z = true := by
  rw [lsB_iff] at *; omega
abbrev Srt (l : List Ed) : Prop := l.Pairwise (fun x y => lsB x y = true)
theorem to_Ask (x0 : Int) (x1 : Int) (x2 : Int) (x3 : Int) : g_ltoAsk (x0, x1, x2, x3) = some ((x0, x1, x2, x3), ()) := e_ltoAsk BIG _
theorem eq_Ask (x0 : Int) (x1 : Int) (x2 : Int) (x3 : Int) (y0 : Int) (y1 : Int) (y2 : Int) (y3 : Int) : g_leqAsk ((x0, x1, x2, x3), (y0, y1, y2, y3)) = some (decide ((x0, x1, x2, x3) = (y0, y1, y2, y3)), ()) := by
  show f_leqAsk BIG _ = _
  rw [e_leqAsk]
  dsimp only
  by_cases c0 : x0 = y0
  case neg =>
    simp [c0]
  rw [decide_eq_true c0, Bool.not_true, cond_false]
  by_cases c1 : x1 = y1
  case neg =>
    simp [c1]
  rw [decide_eq_true c1, Bool.not_true, cond_false]
  by_cases c2 : x2 = y2
  case neg =>
    simp [c2]
  rw [decide_eq_true c2, Bool.not_true, cond_false]
  by_cases c3 : x3 = y3
  case neg =>
    simp [c3]
  rw [decide_eq_true c3, Bool.not_true, cond_false]
  rw [decide_eq_true (by simp_all)]
theorem to_Edge (x0 : Int) (x1 : Int) : g_ltoEdge (x0, x1) = some ((x0, x1), ()) := e_ltoEdge BIG _
theorem eq_Edge (x0 : Int) (x1 : Int) (y0 : Int) (y1 : Int) : g_leqEdge ((x0, x1), (y0, y1)) = some (decide ((x0, x1) = (y0, y1)), ()) := by
  show f_leqEdge BIG _ = _
  rw [e_leqEdge]
  dsimp only
  by_cases c0 : x0 = y0
  case neg =>
    simp [c0]
  rw [decide_eq_true c0, Bool.not_true, cond_false]
  by_cases c1 : x1 = y1
  case neg =>
    simp [c1]
  rw [decide_eq_true c1, Bool.not_true, cond_false]
  rw [decide_eq_true (by simp_all)]
theorem to_Said (x0 x1 x2 x3 x4 x5 : Int) : g_ltoSaid (x0, x1, x2, x3, x4, x5) = some ((x0, x1, x2, x3, x4, x5), ()) := by
  show f_ltoSaid BIG _ = _
  rw [e_ltoSaid]
  dsimp only
  rw [to_Ask, Option.bind_some]
theorem eq_Said (x0 x1 x2 x3 x4 x5 y0 y1 y2 y3 y4 y5 : Int) : g_leqSaid ((x0, x1, x2, x3, x4, x5), (y0, y1, y2, y3, y4, y5)) = some (decide ((x0, x1, x2, x3, x4, x5) = (y0, y1, y2, y3, y4, y5)), ()) := by
  show f_leqSaid BIG _ = _
  rw [e_leqSaid]
  dsimp only
  by_cases c0 : x0 = y0
  case neg =>
    simp [c0]
  rw [decide_eq_true c0, Bool.not_true, cond_false, eq_Ask, Option.bind_some]
  by_cases c1 : (x1, x2, x3, x4) = (y1, y2, y3, y4)
  case neg =>
    rw [decide_eq_false c1, Bool.not_false, cond_true, decide_eq_false]
    intro h; apply c1; simp_all
  rw [decide_eq_true c1, Bool.not_true, cond_false]
  by_cases c2 : x5 = y5
  case neg =>
    simp [c2]
  rw [decide_eq_true c2, Bool.not_true, cond_false]
  rw [decide_eq_true (by simp_all)]
theorem sz_IntS (a : List (Int)) (l : Int) (h0 : 0 ≤ l) (h1 : l ≤ 1048576) (ha : a.length ≤ maxLen) : g_lszIntS (a, l) = some (if ((a.length : Nat) : Int) ≤ l then l - (a.length : Nat) else -1, ()) := by
  have hm : maxLen = 9223372036854775807 := by decide
  show f_lszIntS BIG _ = _
  rw [e_lszIntS, wr (by omega) (by omega)]
  by_cases h : ((a.length : Nat) : Int) ≤ l
  · rw [if_pos h, decide_eq_false (by omega), cond_false]
  · rw [if_neg h, decide_eq_true (by omega), cond_true]
theorem to_IntS (a : List (Int)) (h : a.length ≤ 1048576) : g_ltoIntS a = some (a, ()) := by
  have hm : maxLen = 9223372036854775807 := by decide
  show f_ltoIntS BIG _ = _
  rw [e_ltoIntS, decide_eq_true (by omega), cond_true, decide_eq_true (by simp; omega), cond_true]
  simp only [Int.toNat_natCast]
  rw [cpLoop a (by omega)]
  · rfl
  · intro self out i y hl hy
    have hi := (List.getElem?_eq_some_iff.1 hy).1
    simp only [show ((i : Int) < (a.length : Int)) from by omega, decide_true, cond_true]
    rw [bnd_nat hi, hy, Option.bind_some]
    rw [bnd_nat (by omega), List.getElem?_eq_getElem (by omega), Option.bind_some, wr1 (by omega)]
  · intro self out hl
    simp
theorem eq_IntS (a b : List (Int)) (h : a.length ≤ 4294967296) : g_leqIntS (a, b) = some (decide (a = b), ()) := by
  have hm : maxLen = 9223372036854775807 := by decide
  show f_leqIntS BIG _ = _
  rw [e_leqIntS]
  by_cases hl : a.length = b.length
  · rw [decide_eq_true (by omega), Bool.not_true, cond_false, eqLoop a b (by omega) hl false]
    · by_cases h : a = b <;> simp [h]
    · intro self i x y hx hy
      have hi := (List.getElem?_eq_some_iff.1 hx).1
      simp only [show ((i : Int) < (a.length : Int)) from by omega, decide_true, cond_true]
      rw [bnd_nat hi, hx, Option.bind_some, bnd_nat (by omega), hy, Option.bind_some]
      rw [wr1 (by omega)]
      by_cases h : x = y <;> simp [h]
    · intro self
      simp
  · rw [decide_eq_false (by omega), Bool.not_false, cond_true, decide_eq_false (fun h => hl (by rw [h]))]
theorem sz_EdgeS (a : List (Int × Int)) (l : Int) (h0 : 0 ≤ l) (h1 : l ≤ 1048576) (ha : a.length ≤ maxLen) : g_lszEdgeS (a, l) = some (if ((a.length : Nat) : Int) ≤ l then l - (a.length : Nat) else -1, ()) := by
  have hm : maxLen = 9223372036854775807 := by decide
  show f_lszEdgeS BIG _ = _
  rw [e_lszEdgeS, wr (by omega) (by omega)]
  by_cases h : ((a.length : Nat) : Int) ≤ l
  · rw [if_pos h, decide_eq_false (by omega), cond_false]
  · rw [if_neg h, decide_eq_true (by omega), cond_true]
theorem to_EdgeS (a : List (Int × Int)) (h : a.length ≤ 1048576) : g_ltoEdgeS a = some (a, ()) := by
  have hm : maxLen = 9223372036854775807 := by decide
  show f_ltoEdgeS BIG _ = _
  rw [e_ltoEdgeS, decide_eq_true (by omega), cond_true, decide_eq_true (by simp; omega), cond_true]
  simp only [Int.toNat_natCast]
  rw [cpLoop a (by omega)]
  · rfl
  · intro self out i y hl hy
    have hi := (List.getElem?_eq_some_iff.1 hy).1
    simp only [show ((i : Int) < (a.length : Int)) from by omega, decide_true, cond_true]
    rw [bnd_nat hi, hy, Option.bind_some]
    rw [to_Edge _ _, Option.bind_some]
    rw [bnd_nat (by omega), List.getElem?_eq_getElem (by omega), Option.bind_some, wr1 (by omega)]
  · intro self out hl
    simp
theorem eq_EdgeS (a b : List (Int × Int)) (h : a.length ≤ 4294967296) : g_leqEdgeS (a, b) = some (decide (a = b), ()) := by
  have hm : maxLen = 9223372036854775807 := by decide
  show f_leqEdgeS BIG _ = _
  rw [e_leqEdgeS]
  by_cases hl : a.length = b.length
  · rw [decide_eq_true (by omega), Bool.not_true, cond_false, eqLoop a b (by omega) hl false]
    · by_cases h : a = b <;> simp [h]
    · intro self i x y hx hy
      have hi := (List.getElem?_eq_some_iff.1 hx).1
      simp only [show ((i : Int) < (a.length : Int)) from by omega, decide_true, cond_true]
      rw [bnd_nat hi, hx, Option.bind_some, bnd_nat (by omega), hy, Option.bind_some]
      rw [wr1 (by omega)]
      rw [eq_Edge _ _ _ _, Option.bind_some]
      by_cases h : x = y <;> simp [h]
    · intro self
      simp
  · rw [decide_eq_false (by omega), Bool.not_false, cond_true, decide_eq_false (fun h => hl (by rw [h]))]
theorem sz_SaidS (a : List (Int × Int × Int × Int × Int × Int)) (l : Int) (h0 : 0 ≤ l) (h1 : l ≤ 1048576) (ha : a.length ≤ maxLen) : g_lszSaidS (a, l) = some (if ((a.length : Nat) : Int) ≤ l then l - (a.length : Nat) else -1, ()) := by
  have hm : maxLen = 9223372036854775807 := by decide
  show f_lszSaidS BIG _ = _
  rw [e_lszSaidS, wr (by omega) (by omega)]
  by_cases h : ((a.length : Nat) : Int) ≤ l
  · rw [if_pos h, decide_eq_false (by omega), cond_false]
  · rw [if_neg h, decide_eq_true (by omega), cond_true]
theorem to_SaidS (a : List (Int × Int × Int × Int × Int × Int)) (h : a.length ≤ 1048576) : g_ltoSaidS a = some (a, ()) := by
  have hm : maxLen = 9223372036854775807 := by decide
  show f_ltoSaidS BIG _ = _
  rw [e_ltoSaidS, decide_eq_true (by omega), cond_true, decide_eq_true (by simp; omega), cond_true]
  simp only [Int.toNat_natCast]
  rw [cpLoop a (by omega)]
  · rfl
  · intro self out i y hl hy
    have hi := (List.getElem?_eq_some_iff.1 hy).1
    simp only [show ((i : Int) < (a.length : Int)) from by omega, decide_true, cond_true]
    rw [bnd_nat hi, hy, Option.bind_some]
    rw [to_Said _ _ _ _ _ _, Option.bind_some]
    rw [bnd_nat (by omega), List.getElem?_eq_getElem (by omega), Option.bind_some, wr1 (by omega)]
  · intro self out hl
    simp
theorem eq_SaidS (a b : List (Int × Int × Int × Int × Int × Int)) (h : a.length ≤ 4294967296) : g_leqSaidS (a, b) = some (decide (a = b), ()) := by
  have hm : maxLen = 9223372036854775807 := by decide
  show f_leqSaidS BIG _ = _
  rw [e_leqSaidS]
  by_cases hl : a.length = b.length
  · rw [decide_eq_true (by omega), Bool.not_true, cond_false, eqLoop a b (by omega) hl false]
    · by_cases h : a = b <;> simp [h]
    · intro self i x y hx hy
      have hi := (List.getElem?_eq_some_iff.1 hx).1
      simp only [show ((i : Int) < (a.length : Int)) from by omega, decide_true, cond_true]
      rw [bnd_nat hi, hx, Option.bind_some, bnd_nat (by omega), hy, Option.bind_some]
      rw [wr1 (by omega)]
      rw [eq_Said _ _ _ _ _ _ _ _ _ _ _ _, Option.bind_some]
      by_cases h : x = y <;> simp [h]
    · intro self
      simp
  · rw [decide_eq_false (by omega), Bool.not_false, cond_true, decide_eq_false (fun h => hl (by rw [h]))]
def z_IntSS (a : List (List (Int))) : Nat := a.length + (a.map fun y => y.length).sum
abbrev B_IntSS (a : List (List (Int))) : Prop := a.length ≤ maxLen ∧ ∀ y, y ∈ a → y.length ≤ maxLen
theorem z_IntSS_mem {a : List (List (Int))} {y : List (Int)} (h : y ∈ a) : y.length ≤ z_IntSS a := by
  have : ∀ a : List (List (Int)), y ∈ a → y.length ≤ (a.map fun y => y.length).sum := by
    intro a
    induction a with
    | nil => intro h; cases h
    | cons x a ih =>
      intro h
      rw [List.map_cons, List.sum_cons]
      rcases List.mem_cons.1 h with rfl | h
      · omega
      · have := ih h; omega
  have := this a h
  unfold z_IntSS; omega
theorem sz_IntSS (a : List (List (Int))) (l : Int) (h0 : 0 ≤ l) (h1 : l ≤ 1048576) (ha : B_IntSS a) : g_lszIntSS (a, l) = some (if ((z_IntSS a : Nat) : Int) ≤ l then l - (z_IntSS a : Nat) else -1, ()) := by
  have hm : maxLen = 9223372036854775807 := by decide
  have ha1 := ha.1
  show f_lszIntSS BIG _ = _
  rw [e_lszIntSS, wr (by omega) (by omega)]
  by_cases h : ((a.length : Nat) : Int) ≤ l
  case neg =>
    rw [decide_eq_true (by omega), cond_true, if_neg (by unfold z_IntSS; omega)]
  rw [decide_eq_false (by omega), cond_false, szLoop a (fun y => y.length) (-1) (l - (a.length : Nat)) (by omega) (by omega) (by omega)]
  · unfold z_IntSS
    by_cases c : (((a.map fun y => y.length).sum : Nat) : Int) ≤ l - (a.length : Nat)
    · rw [if_pos c, if_pos (by omega)]
      simp only [Option.bind_some]
      congr 2
      omega
    · rw [if_neg c, if_neg (by omega)]
      rfl
  · intro self i l y hy h0 h1
    have hi := (List.getElem?_eq_some_iff.1 hy).1
    simp only [show ((i : Int) < (a.length : Int)) from by omega, decide_true, cond_true]
    rw [bnd_nat hi, hy, Option.bind_some, sz_IntS y l h0 h1 (ha.2 y (List.mem_of_getElem? hy)), Option.bind_some]
    by_cases c : ((y.length : Nat) : Int) ≤ l
    · rw [if_pos c, if_pos c, decide_eq_false (by omega), cond_false, wr1 (by omega)]
    · rw [if_neg c, if_neg c, decide_eq_true (by omega), cond_true]
  · intro self l
    simp
theorem to_IntSS (a : List (List (Int))) (h : z_IntSS a ≤ 1048576) : g_ltoIntSS a = some (a, ()) := by
  have hm : maxLen = 9223372036854775807 := by decide
  have h1 : a.length ≤ 1048576 := by unfold z_IntSS at h; omega
  show f_ltoIntSS BIG _ = _
  rw [e_ltoIntSS, decide_eq_true (by omega), cond_true, decide_eq_true (by simp; omega), cond_true]
  simp only [Int.toNat_natCast]
  rw [cpLoop a (by omega)]
  · rfl
  · intro self out i y hl hy
    have hi := (List.getElem?_eq_some_iff.1 hy).1
    have hz := z_IntSS_mem (List.mem_of_getElem? hy)
    simp only [show ((i : Int) < (a.length : Int)) from by omega, decide_true, cond_true]
    rw [bnd_nat hi, hy, Option.bind_some, to_IntS y (by omega), Option.bind_some, bnd_nat (by omega), List.getElem?_eq_getElem (by omega), Option.bind_some, wr1 (by omega)]
  · intro self out hl
    simp
theorem eq_IntSS (a b : List (List (Int))) (h : z_IntSS a ≤ 4294967296) : g_leqIntSS (a, b) = some (decide (a = b), ()) := by
  have hm : maxLen = 9223372036854775807 := by decide
  have h1 : a.length ≤ 4294967296 := by unfold z_IntSS at h; omega
  show f_leqIntSS BIG _ = _
  rw [e_leqIntSS]
  by_cases hl : a.length = b.length
  · rw [decide_eq_true (by omega), Bool.not_true, cond_false, eqLoop a b (by omega) hl false]
    · by_cases h : a = b <;> simp [h]
    · intro self i x y hx hy
      have hi := (List.getElem?_eq_some_iff.1 hx).1
      have hz := z_IntSS_mem (List.mem_of_getElem? hx)
      simp only [show ((i : Int) < (a.length : Int)) from by omega, decide_true, cond_true]
      rw [bnd_nat hi, hx, Option.bind_some, bnd_nat (by omega), hy, Option.bind_some, eq_IntS x y (by omega), Option.bind_some, wr1 (by omega)]
      by_cases h : x = y <;> simp [h]
    · intro self
      simp
  · rw [decide_eq_false (by omega), Bool.not_false, cond_true, decide_eq_false (fun h => hl (by rw [h]))]
theorem sz_Order (x0 : Int) (x1 : Int) (x2 : List (Int × Int)) (x3 : Int) (l : Int) (h0 : 0 ≤ l) (h1 : l ≤ 1048576) (q2 : x2.length ≤ maxLen) : g_lszOrder ((x0, x1, x2, x3), l) = some (if (((x2.length) : Nat) : Int) ≤ l then l - ((x2.length) : Nat) else -1, ()) := by
  show f_lszOrder BIG _ = _
  rw [e_lszOrder]
  dsimp only
  have s0 := sz_EdgeS x2 (l) (by omega) (by omega) q2
  by_cases c0 : (((x2.length) : Nat) : Int) ≤ l
  case neg =>
    rw [if_neg c0] at s0
    rw [s0, Option.bind_some, if_neg (by omega)]
    all_goals rfl
  rw [if_pos c0] at s0
  rw [s0, Option.bind_some]
  dsimp only
  rw [decide_eq_false (by omega), cond_false]
  rw [if_pos (by omega)]
  all_goals first | rfl | (congr 2; done) | (congr 2; omega)
theorem to_Order (x0 : Int) (x1 : Int) (x2 : List (Int × Int)) (x3 : Int) (h : (x2.length) ≤ 1048576) : g_ltoOrder (x0, x1, x2, x3) = some ((x0, x1, x2, x3), ()) := by
  show f_ltoOrder BIG _ = _
  rw [e_ltoOrder]
  dsimp only
  rw [to_EdgeS x2 (by omega), Option.bind_some]
theorem eq_Order (x0 : Int) (x1 : Int) (x2 : List (Int × Int)) (x3 : Int) (h : (x2.length) ≤ 4294967296) : g_leqOrder ((x0, x1, x2, x3), (x0, x1, x2, x3)) = some (true, ()) := by
  show f_leqOrder BIG _ = _
  rw [e_leqOrder]
  dsimp only
  rw [decide_eq_true rfl, Bool.not_true, cond_false]
  rw [decide_eq_true rfl, Bool.not_true, cond_false]
  rw [eq_EdgeS x2 x2 (by omega), Option.bind_some]
  rw [decide_eq_true rfl, Bool.not_true, cond_false]
  rw [decide_eq_true rfl, Bool.not_true, cond_false]
theorem sz_Task (x0 : Int) (x1 : Int) (x2 : Int) (x3 : Int) (x4 : Int) (x5 : Int) (x6 : Int) (x7 : List (Int × Int)) (x8 : Int) (l : Int) (h0 : 0 ≤ l) (h1 : l ≤ 1048576) (q7 : x7.length ≤ maxLen) : g_lszTask ((x0, x1, x2, x3, x4, x5, x6, x7, x8), l) = some (if (((x7.length) : Nat) : Int) ≤ l then l - ((x7.length) : Nat) else -1, ()) := by
  show f_lszTask BIG _ = _
  rw [e_lszTask]
  dsimp only
  have s0 := sz_Order x5 x6 x7 x8 (l) (by omega) (by omega) q7
  by_cases c0 : (((x7.length) : Nat) : Int) ≤ l
  case neg =>
    rw [if_neg c0] at s0
    rw [s0, Option.bind_some, if_neg (by omega)]
    all_goals rfl
  rw [if_pos c0] at s0
  rw [s0, Option.bind_some]
  dsimp only
  rw [decide_eq_false (by omega), cond_false]
  rw [if_pos (by omega)]
  all_goals first | rfl | (congr 2; done) | (congr 2; omega)
theorem to_Task (x0 : Int) (x1 : Int) (x2 : Int) (x3 : Int) (x4 : Int) (x5 : Int) (x6 : Int) (x7 : List (Int × Int)) (x8 : Int) (h : (x7.length) ≤ 1048576) : g_ltoTask (x0, x1, x2, x3, x4, x5, x6, x7, x8) = some ((x0, x1, x2, x3, x4, x5, x6, x7, x8), ()) := by
  show f_ltoTask BIG _ = _
  rw [e_ltoTask]
  dsimp only
  rw [to_Ask x0 x1 x2 x3, Option.bind_some]
  rw [to_Order x5 x6 x7 x8 (by omega), Option.bind_some]
theorem eq_Task (x0 : Int) (x1 : Int) (x2 : Int) (x3 : Int) (x4 : Int) (x5 : Int) (x6 : Int) (x7 : List (Int × Int)) (x8 : Int) (h : (x7.length) ≤ 4294967296) : g_leqTask ((x0, x1, x2, x3, x4, x5, x6, x7, x8), (x0, x1, x2, x3, x4, x5, x6, x7, x8)) = some (true, ()) := by
  show f_leqTask BIG _ = _
  rw [e_leqTask]
  dsimp only
  rw [eq_Ask, Option.bind_some]
  rw [decide_eq_true rfl, Bool.not_true, cond_false]
  rw [decide_eq_true rfl, Bool.not_true, cond_false]
  rw [eq_Order x5 x6 x7 x8 (by omega), Option.bind_some]
  rw [Bool.not_true, cond_false]
theorem sz_Head (x0 : Int) (x1 : List (Int)) (x2 : List (Int × Int)) (x3 : List (List (Int))) (x4 : List (Int)) (x5 : Int) (x6 : Int) (x7 : Int) (x8 : Int) (x9 : Int) (x10 : Int) (x11 : Int) (x12 : List (Int × Int)) (x13 : Int) (x14 : List (Int × Int × Int × Int × Int × Int)) (l : Int) (h0 : 0 ≤ l) (h1 : l ≤ 1048576) (q1 : x1.length ≤ maxLen) (q2 : x2.length ≤ maxLen) (q3 : B_IntSS x3) (q4 : x4.length ≤ maxLen) (q12 : x12.length ≤ maxLen) (q14 : x14.length ≤ maxLen) : g_lszHead ((x0, x1, x2, x3, x4, x5, x6, x7, x8, x9, x10, x11, x12, x13, x14), l) = some (if (((x1.length + x2.length + z_IntSS x3 + x4.length + x12.length + x14.length) : Nat) : Int) ≤ l then l - ((x1.length + x2.length + z_IntSS x3 + x4.length + x12.length + x14.length) : Nat) else -1, ()) := by
  show f_lszHead BIG _ = _
  rw [e_lszHead]
  dsimp only
  have s0 := sz_IntS x1 (l) (by omega) (by omega) q1
  by_cases c0 : (((x1.length) : Nat) : Int) ≤ l
  case neg =>
    rw [if_neg c0] at s0
    rw [s0, Option.bind_some, if_neg (by omega)]
    all_goals rfl
  rw [if_pos c0] at s0
  rw [s0, Option.bind_some]
  dsimp only
  rw [decide_eq_false (by omega), cond_false]
  have s1 := sz_EdgeS x2 (l - ((x1.length) : Nat)) (by omega) (by omega) q2
  by_cases c1 : (((x2.length) : Nat) : Int) ≤ l - ((x1.length) : Nat)
  case neg =>
    rw [if_neg c1] at s1
    rw [s1, Option.bind_some, if_neg (by omega)]
    all_goals rfl
  rw [if_pos c1] at s1
  rw [s1, Option.bind_some]
  dsimp only
  rw [decide_eq_false (by omega), cond_false]
  have s2 := sz_IntSS x3 (l - ((x1.length) : Nat) - ((x2.length) : Nat)) (by omega) (by omega) q3
  by_cases c2 : (((z_IntSS x3) : Nat) : Int) ≤ l - ((x1.length) : Nat) - ((x2.length) : Nat)
  case neg =>
    rw [if_neg c2] at s2
    rw [s2, Option.bind_some, if_neg (by omega)]
    all_goals rfl
  rw [if_pos c2] at s2
  rw [s2, Option.bind_some]
  dsimp only
  rw [decide_eq_false (by omega), cond_false]
  have s3 := sz_IntS x4 (l - ((x1.length) : Nat) - ((x2.length) : Nat) - ((z_IntSS x3) : Nat)) (by omega) (by omega) q4
  by_cases c3 : (((x4.length) : Nat) : Int) ≤ l - ((x1.length) : Nat) - ((x2.length) : Nat) - ((z_IntSS x3) : Nat)
  case neg =>
    rw [if_neg c3] at s3
    rw [s3, Option.bind_some, if_neg (by omega)]
    all_goals rfl
  rw [if_pos c3] at s3
  rw [s3, Option.bind_some]
  dsimp only
  rw [decide_eq_false (by omega), cond_false]
  have s4 := sz_Task x5 x6 x7 x8 x9 x10 x11 x12 x13 (l - ((x1.length) : Nat) - ((x2.length) : Nat) - ((z_IntSS x3) : Nat) - ((x4.length) : Nat)) (by omega) (by omega) q12
  by_cases c4 : (((x12.length) : Nat) : Int) ≤ l - ((x1.length) : Nat) - ((x2.length) : Nat) - ((z_IntSS x3) : Nat) - ((x4.length) : Nat)
  case neg =>
    rw [if_neg c4] at s4
    rw [s4, Option.bind_some, if_neg (by omega)]
    all_goals rfl
  rw [if_pos c4] at s4
  rw [s4, Option.bind_some]
  dsimp only
  rw [decide_eq_false (by omega), cond_false]
  have s5 := sz_SaidS x14 (l - ((x1.length) : Nat) - ((x2.length) : Nat) - ((z_IntSS x3) : Nat) - ((x4.length) : Nat) - ((x12.length) : Nat)) (by omega) (by omega) q14
  by_cases c5 : (((x14.length) : Nat) : Int) ≤ l - ((x1.length) : Nat) - ((x2.length) : Nat) - ((z_IntSS x3) : Nat) - ((x4.length) : Nat) - ((x12.length) : Nat)
  case neg =>
    rw [if_neg c5] at s5
    rw [s5, Option.bind_some, if_neg (by omega)]
    all_goals rfl
  rw [if_pos c5] at s5
  rw [s5, Option.bind_some]
  dsimp only
  rw [decide_eq_false (by omega), cond_false]
  rw [if_pos (by omega)]
  all_goals first | rfl | (congr 2; done) | (congr 2; omega)
theorem to_Head (x0 : Int) (x1 : List (Int)) (x2 : List (Int × Int)) (x3 : List (List (Int))) (x4 : List (Int)) (x5 : Int) (x6 : Int) (x7 : Int) (x8 : Int) (x9 : Int) (x10 : Int) (x11 : Int) (x12 : List (Int × Int)) (x13 : Int) (x14 : List (Int × Int × Int × Int × Int × Int)) (h : (x1.length + x2.length + z_IntSS x3 + x4.length + x12.length + x14.length) ≤ 1048576) : g_ltoHead (x0, x1, x2, x3, x4, x5, x6, x7, x8, x9, x10, x11, x12, x13, x14) = some ((x0, x1, x2, x3, x4, x5, x6, x7, x8, x9, x10, x11, x12, x13, x14), ()) := by
  show f_ltoHead BIG _ = _
  rw [e_ltoHead]
  dsimp only
  rw [to_IntS x1 (by omega), Option.bind_some]
  rw [to_EdgeS x2 (by omega), Option.bind_some]
  rw [to_IntSS x3 (by omega), Option.bind_some]
  rw [to_IntS x4 (by omega), Option.bind_some]
  rw [to_Task x5 x6 x7 x8 x9 x10 x11 x12 x13 (by omega), Option.bind_some]
  rw [to_SaidS x14 (by omega), Option.bind_some]
theorem eq_Head (x0 : Int) (x1 : List (Int)) (x2 : List (Int × Int)) (x3 : List (List (Int))) (x4 : List (Int)) (x5 : Int) (x6 : Int) (x7 : Int) (x8 : Int) (x9 : Int) (x10 : Int) (x11 : Int) (x12 : List (Int × Int)) (x13 : Int) (x14 : List (Int × Int × Int × Int × Int × Int)) (h : (x1.length + x2.length + z_IntSS x3 + x4.length + x12.length + x14.length) ≤ 4294967296) : g_leqHead ((x0, x1, x2, x3, x4, x5, x6, x7, x8, x9, x10, x11, x12, x13, x14), (x0, x1, x2, x3, x4, x5, x6, x7, x8, x9, x10, x11, x12, x13, x14)) = some (true, ()) := by
  show f_leqHead BIG _ = _
  rw [e_leqHead]
  dsimp only
  rw [decide_eq_true rfl, Bool.not_true, cond_false]
  rw [eq_IntS x1 x1 (by omega), Option.bind_some]
  rw [decide_eq_true rfl, Bool.not_true, cond_false]
  rw [eq_EdgeS x2 x2 (by omega), Option.bind_some]
  rw [decide_eq_true rfl, Bool.not_true, cond_false]
  rw [eq_IntSS x3 x3 (by omega), Option.bind_some]
  rw [decide_eq_true rfl, Bool.not_true, cond_false]
  rw [eq_IntS x4 x4 (by omega), Option.bind_some]
  rw [decide_eq_true rfl, Bool.not_true, cond_false]
  rw [eq_Task x5 x6 x7 x8 x9 x10 x11 x12 x13 (by omega), Option.bind_some]
  rw [Bool.not_true, cond_false]
  rw [eq_SaidS x14 x14 (by omega), Option.bind_some]
  rw [decide_eq_true rfl, Bool.not_true, cond_false]
theorem eOk_srt {n : Int} {es : List Ed} (h : eOk n es = true) : (∀ e, e ∈ es → edB n e = true) ∧ Srt es ∧ es.length ≤ 66 := by
  have hl := eOk_len h
  unfold eOk at h
  split at h
  case isFalse => cases h
  case isTrue hp =>
  have hc : ∀ i (h : i + 1 < es.length), edB n es[i + 1] = true ∧ lsB es[i] es[i + 1] = true := by
    intro i hi
    have := hp (i + 1) hi
    rw [eP_s (List.getElem?_eq_getElem hi) (List.getElem?_eq_getElem (by omega)), Bool.and_eq_true] at this
    exact this
  have h0 : ∀ i (h : i < es.length), edB n es[i] = true := by
    intro i hi
    cases i with
    | zero => have := hp 0 hi; rwa [eP_0 (List.getElem?_eq_getElem hi)] at this
    | succ i => exact (hc i hi).1
  refine ⟨fun e he => ?_, List.pairwise_iff_getElem.2 fun i j hi hj hij => ?_, hl⟩
  · obtain ⟨i, hi, rfl⟩ := List.getElem_of_mem he
    exact h0 i hi
  · have : ∀ d (h : i + 1 + d < es.length), lsB es[i] es[i + 1 + d] = true := by
      intro d
      induction d with
      | zero => intro h; exact (hc i h).2
      | succ d ih => intro h; exact lsB_trans (ih (by omega)) (hc (i + 1 + d) h).2
    have := this (j - (i + 1)) (by omega)
    simpa [show i + 1 + (j - (i + 1)) = j from by omega] using this
theorem edB_in {n : Nat} {e : Ed} (h : edB (n : Int) e = true) : 0 ≤ e.1 ∧ e.1 < n ∧ 0 ≤ e.2 ∧ e.2 < n ∧ e.1 < e.2 := by
  simp only [edB, Bool.and_eq_true, inB_t, decide_eq_true_eq] at h
  omega
/-- A byte of a number. -/
def by8 (n : Int) : UInt8 := UInt8.ofNat (n % 256).toNat
def vF : Nat → Nat → List UInt8
  | 0, v => [by8 (v : Int)]
  | k + 1, v => if v ≤ 127 then [by8 (v : Int)] else by8 ((v % 128 + 128 : Nat) : Int) :: vF k (v / 128)
def vB (v : Nat) : List UInt8 := vF 9 v
def e2 (e : Ed) : List UInt8 := [by8 e.1, by8 e.2]
/-- A number read off bytes, of which it takes so many at most; and how many it took. -/
def dec : Nat → List UInt8 → Option (Nat × Nat)
  | 0, _ => none
  | _ + 1, [] => none
  | k + 1, b :: l => if b.toNat < 128 then some (b.toNat, 1) else (dec k l).map fun r => (b.toNat - 128 + 128 * r.1, r.2 + 1)
/-- What is read there, when it is a number in its own bytes. -/
def rdV (l : List UInt8) : Option (Nat × Nat) := match dec 5 l with
  | some (v, m) => if v ≤ 1000000000 ∧ vB v = l.take m then some (v, m) else none
  | none => none
abbrev St := Nat × Bool
def nm (T : List UInt8) (s : St) : Int × St :=
  if s.2 then (0, (s.1, true)) else match rdV (T.drop s.1) with
  | some (v, m) => ((v : Int), (s.1 + m, false))
  | none => (0, (s.1, true))
def on (T : List UInt8) (s : St) : Int × St :=
  if s.2 then (0, (s.1, true)) else match T[s.1]? with
  | some b => ((b.toNat : Int), (s.1 + 1, false))
  | none => (0, (s.1, true))
def edF (T : List UInt8) : Nat → St → List Ed → St × List Ed
  | 0, s, out => (s, out)
  | k + 1, s, out => if s.2 then (s, out) else edF T k (on T (on T s).2).2 (out ++ [((on T s).1, (on T (on T s).2).1)])
def q0 (T : List UInt8) : Int × St := nm T (0, false)
def q1 (T : List UInt8) : Int × St := on T (q0 T).2
def q2 (T : List UInt8) : Int × St := nm T (q1 T).2
def q3 (T : List UInt8) (K : Nat) : St × List Ed := edF T K (nm T (q2 T).2).2 []
def lbF (T : List UInt8) : Nat → St → List Int → St × List Int
  | 0, s, out => (s, out)
  | k + 1, s, out => lbF T k (on T s).2 (out ++ [(on T s).1])
def q4 (T : List UInt8) (K : Nat) : St × List Ed := edF T K (nm T (q1 T).2).2 []
def q5 (T : List UInt8) (K N : Nat) : St × List Int := lbF T N (q4 T K).1 []
theorem h_sl05SameEdges (a b : List Ed) (ha : a.length ≤ maxLen) : g_sl05SameEdges (a, b) = some (decide (a = b), ()) := by
  show f_sl05SameEdges BIG _ = _
  rw [e_sl05SameEdges]
  by_cases hl : a.length = b.length
  · rw [decide_eq_true (by omega), Bool.not_true, cond_false, eqLoop a b ha hl false]
    · by_cases h : a = b <;> simp [h]
    · intro self i x y hx hy
      have hi := (List.getElem?_eq_some_iff.1 hx).1
      simp only [show ((i : Int) < (a.length : Int)) from by omega, decide_true, cond_true]
      rw [bnd_nat hi, hx, Option.bind_some, bnd_nat (by omega), hy, Option.bind_some, wr1 (by omega)]
      obtain ⟨x1, x2⟩ := x
      obtain ⟨y1, y2⟩ := y
      by_cases h1 : x1 = y1 <;> by_cases h2 : x2 = y2 <;> simp [h1, h2]
    · intro self
      simp
  · rw [decide_eq_false (by omega), Bool.not_false, cond_true, decide_eq_false (fun h => hl (by rw [h]))]
def blO (o : Or') : Bool := decide (o.1 = 0) && (decide (o.2.1 = 0) && (decide (o.2.2.1.length = 0) && decide (o.2.2.2 = 0)))
def blQ (a b c d : Int) : Bool := decide (a = 0) && (decide (b = 0) && (decide (c = 0) && decide (d = 0)))
theorem len0 {α : Type} (l : List α) : decide ((l.length : Int) = 0) = decide (l.length = 0) := decide_eq_decide.2 (by omega)
theorem nil_dec {α : Type} [DecidableEq α] (l : List α) : decide (l = []) = decide (l.length = 0) := decide_eq_decide.2 List.length_eq_zero_iff.symm
theorem askEq (a b c d : Int) : (decide (a = 0) && (decide (b = 0) && (decide (c = 0) && (decide (d = 0) && true)))) = blQ a b c d := by simp [blQ]
theorem fiLoop {α : Type} (a : List α) (hl : a.length < 18446744073709551616) (p : α → Bool) {F : (Int → Option (Unit ⊕ Int)) → Int → Option (Unit ⊕ Int)}
    (hF : ∀ self (i : Nat) y, a[i]? = some y → F self (i : Int) = if p y then some (.inr (i : Int)) else self ((i + 1 : Nat) : Int))
    (hE : ∀ self, F self (a.length : Int) = some (.inl ())) : loopT BIG F 0 = some (if a.findIdx p < a.length then .inr (a.findIdx p : Int) else .inl ()) := by
  refine loop_eq (fun (x : Int) => ∃ i : Nat, x = (i : Int) ∧ i ≤ a.length ∧ ∀ j (hj : j < a.length), j < i → p a[j] = false) (fun x => a.length - x.toNat) (fun _ => _) (fun self x ⟨i, h1, h2, h3⟩ hs => ?_) (n := BIG) (x := 0) (by simp; exact hl) ⟨0, rfl, by simp, fun j _ hj => by omega⟩
  subst h1
  by_cases hi : i < a.length
  · rw [hF self i a[i] (List.getElem?_eq_getElem hi)]
    cases hp : p a[i] with
    | true =>
      have : a.findIdx p = i := (List.findIdx_eq hi).2 ⟨hp, fun j hj => h3 j (by omega) hj⟩
      rw [if_pos rfl, this, if_pos hi]
    | false =>
      rw [if_neg (by simp)]
      exact hs _ ⟨i + 1, rfl, hi, fun j hj hji => by
        by_cases hj' : j = i
        · subst hj'; exact hp
        · exact h3 j hj (by omega)⟩ (by simp; omega)
  · have he : i = a.length := by omega
    subst he
    rw [hE, if_neg]
    intro h
    have h4 := List.findIdx_lt_length.1 h
    obtain ⟨x, hx, hpx⟩ := h4
    obtain ⟨j, hj, rfl⟩ := List.getElem_of_mem hx
    rw [h3 j hj hj] at hpx
    cases hpx
def sA (l : List Sd) (k : Int) : Int := if l.findIdx (fun y => decide (y.1 = k)) < l.length then (l.findIdx (fun y => decide (y.1 = k)) : Int) else -1
theorem w_isaidAt (l : List Sd) (k : Int) (hl : l.length ≤ 1048576) : g_isaidAt (l, k) = some (sA l k, ()) := by
  have hm : maxLen = 9223372036854775807 := by decide
  show f_isaidAt BIG _ = _
  rw [e_isaidAt]
  rw [fiLoop l (by omega) (fun y => decide (y.1 = k))]
  · unfold sA; split <;> rfl
  · intro self i y hy
    have hi := (List.getElem?_eq_some_iff.1 hy).1
    simp only [show ((i : Int) < (l.length : Int)) from by omega, decide_true, cond_true]
    rw [bnd_nat hi, hy, Option.bind_some, wr1 (by omega)]
    cases decide (y.1 = k) <;> rfl
  · intro self; simp
theorem w_sl12Said (x0 : Int) (x1 : List Int) (x2 : List Ed) (x3 : List (List Int)) (x4 : List Int) (x5 x6 x7 x8 x9 x10 x11 : Int) (x12 : List Ed) (x13 : Int) (l : List Sd) (k : Int) (hl : l.length ≤ 1048576) : g_sl12Said ((x0, x1, x2, x3, x4, x5, x6, x7, x8, x9, x10, x11, x12, x13, l), k) = some (sA l k, ()) := by
  have hm : maxLen = 9223372036854775807 := by decide
  show f_sl12Said BIG _ = _
  rw [e_sl12Said]
  dsimp only
  rw [fiLoop l (by omega) (fun y => decide (y.1 = k))]
  · unfold sA; split <;> rfl
  · intro self i y hy
    have hi := (List.getElem?_eq_some_iff.1 hy).1
    simp only [show ((i : Int) < (l.length : Int)) from by omega, decide_true, cond_true]
    rw [bnd_nat hi, hy, Option.bind_some, wr1 (by omega)]
    cases decide (y.1 = k) <;> rfl
  · intro self; simp
theorem sA_take {l : List Sd} {i : Nat} {y : Sd} (h : l[i]? = some y) : decide (0 ≤ sA (l.take i) y.1) = !decide (sA l y.1 = (i : Int)) := by
  obtain ⟨hi, rfl⟩ := List.getElem?_eq_some_iff.1 h
  have hlt : l.findIdx (fun z => decide (z.1 = (l[i]).1)) < l.length := List.findIdx_lt_length.2 ⟨l[i], List.getElem_mem hi, by simp⟩
  have hle : l.findIdx (fun z => decide (z.1 = (l[i]).1)) ≤ i := by
    by_cases hc : i < l.findIdx (fun z => decide (z.1 = (l[i]).1))
    · have := List.not_of_lt_findIdx hc
      simp at this
    · omega
  unfold sA
  rw [if_pos hlt]
  by_cases he : l.findIdx (fun z => decide (z.1 = (l[i]).1)) = i
  · rw [if_neg]
    · simp [he]
    · intro hc
      obtain ⟨z, hz, hp⟩ := List.findIdx_lt_length.1 hc
      obtain ⟨j, hj, rfl⟩ := List.getElem_of_mem hz
      rw [List.length_take] at hj
      have := List.not_of_lt_findIdx (xs := l) (p := fun z => decide (z.1 = (l[i]).1)) (i := j) (by omega)
      rw [List.getElem_take] at hp
      rw [this] at hp
      cases hp
  · have hc : (l.take i).findIdx (fun z => decide (z.1 = (l[i]).1)) < (l.take i).length := by
      refine List.findIdx_lt_length.2 ⟨l[l.findIdx (fun z => decide (z.1 = (l[i]).1))], ?_, by exact List.findIdx_getElem (xs := l) (p := fun z => decide (z.1 = (l[i]).1)) (w := hlt)⟩
      refine List.mem_iff_getElem.2 ⟨l.findIdx (fun z => decide (z.1 = (l[i]).1)), by rw [List.length_take]; omega, ?_⟩
      rw [List.getElem_take]
    rw [if_pos hc, decide_eq_true (by omega), decide_eq_false (by omega)]; rfl
def tB (a b c d sh : Int) (o : Or') : Bool := blQ a b c d && (decide (sh = 0) && blO o)
theorem h_inoTask (a b c d sh : Int) (o : Or') : g_inoTask (a, b, c, d, sh, o) = some (tB a b c d sh o, ()) := by
  show f_inoTask BIG _ = _
  rw [e_inoTask, len0]
  dsimp only
  rw [askEq]
  unfold tB blO
  cases blQ a b c d <;> cases decide (sh = 0) <;> cases decide (o.1 = 0) <;> cases decide (o.2.1 = 0) <;> cases decide (o.2.2.1.length = 0) <;> rfl
theorem h_sl12BlankTask (a b c d sh : Int) (o : Or') (h1 : o.2.2.1.length ≤ maxLen) : g_sl12BlankTask (a, b, c, d, sh, o) = some (tB a b c d sh o, ()) := by
  show f_sl12BlankTask BIG _ = _
  rw [e_sl12BlankTask]
  dsimp only
  rw [askEq]
  have h0 : g_sl09SameOrder (o, ((0 : Int), (0 : Int), [], (0 : Int))) = some (blO o, ()) := by
    have : g_sl09SameOrder (o, ((0 : Int), (0 : Int), [], (0 : Int))) = f_sl09SameOrder BIG (o, ((0 : Int), (0 : Int), [], (0 : Int))) := rfl
    rw [this, e_sl09SameOrder]
    dsimp only
    rw [h_sl05SameEdges _ _ h1, nil_dec]
    unfold blO
    cases decide (o.1 = 0) <;> cases decide (o.2.1 = 0) <;> cases decide (o.2.2.1.length = 0) <;> cases decide (o.2.2.2 = 0) <;> rfl
  rw [h0]
  unfold tB
  cases blQ a b c d <;> cases decide (sh = 0) <;> cases blO o <;> rfl
def rtB (n : Int) (k : Nat) (op a b : Int) : Bool :=
  inB op 1 4 && (inB a 0 (n - 1) && (bif decide (op = 4) then inB b 1 k else inB b 0 (n - 1) && !(decide (a = b) && (decide (op = 1) || decide (op = 2)))))
theorem h_ibadAsk (x0 : Int) (x1 : List Int) (x2 : List Ed) (x3 : List (List Int)) (x4 : List Int) (x5 x6 x7 x8 x9 x10 x11 : Int) (x12 : List Ed) (x13 : Int) (x14 : List Sd) (i op a b : Int) (h0 : 1 ≤ x0 ∧ x0 ≤ 12) : g_ibadAsk ((x0, x1, x2, x3, x4, x5, x6, x7, x8, x9, x10, x11, x12, x13, x14), (i, op, a, b)) = some (!rtB x0 x3.length op a b, ()) := by
  show f_ibadAsk BIG _ = _
  rw [e_ibadAsk]
  dsimp only
  rw [wr (by omega) (by omega)]
  simp only [h_iin']
  unfold rtB
  by_cases h4 : op = 4
  · subst h4
    simp only [decide_true, cond_true, Option.bind_some]
    cases inB 4 1 4 <;> cases inB a 0 (x0 - 1) <;> cases inB b 1 (x3.length : Int) <;> cases decide (a = b) <;> rfl
  · simp only [h4, decide_false, cond_false, Option.bind_some]
    cases inB op 1 4 <;> cases inB a 0 (x0 - 1) <;> cases inB b 0 (x0 - 1) <;> cases decide (a = b) <;> cases decide (op = 1) <;> cases decide (op = 2) <;> rfl
theorem h_sl12Right (x0 : Int) (x1 : List Int) (x2 : List Ed) (x3 : List (List Int)) (x4 : List Int) (x5 x6 x7 x8 x9 x10 x11 : Int) (x12 : List Ed) (x13 : Int) (x14 : List Sd) (i op a b : Int) (h0 : 1 ≤ x0 ∧ x0 ≤ 12) : g_sl12Right ((x0, x1, x2, x3, x4, x5, x6, x7, x8, x9, x10, x11, x12, x13, x14), (i, op, a, b)) = some (rtB x0 x3.length op a b, ()) := by
  show f_sl12Right BIG _ = _
  rw [e_sl12Right]
  dsimp only
  rw [wr (by omega) (by omega)]
  simp only [h_sl01In']
  unfold rtB
  by_cases h4 : op = 4
  · subst h4
    simp only [decide_true, cond_true, Option.bind_some]
    cases inB 4 1 4 <;> cases inB a 0 (x0 - 1) <;> cases inB b 1 (x3.length : Int) <;> rfl
  · simp only [h4, decide_false, cond_false, Option.bind_some]
    by_cases h3 : op = 3
    · subst h3
      simp only [decide_true, cond_true, Option.bind_some]
      cases inB 3 1 4 <;> cases inB a 0 (x0 - 1) <;> cases inB b 0 (x0 - 1) <;> cases decide (a = b) <;> rfl
    · simp only [h3, decide_false, cond_false]
      cases hq : inB op 1 4 with
      | false => rfl
      | true =>
        have : (decide (op = 1) || decide (op = 2)) = true := by
          rw [inB_t] at hq
          by_cases op = 1 <;> by_cases op = 2 <;> simp_all <;> omega
        rw [this]
        cases inB a 0 (x0 - 1) <;> cases inB b 0 (x0 - 1) <;> cases decide (a = b) <;> rfl
theorem gD {α : Type} {l : List α} {i : Nat} {y d : α} (h : l[i]? = some y) : l.getD i d = y := by rw [List.getD_eq_getElem?_getD, h]; rfl
def p1 (k : Nat) (l : List Int) (i : Nat) : Bool := inB (l.getD i 0) 1 k
def p2 (own : List Int) (cuts : List Ed) (i : Nat) : Bool := !decide (own.getD (cuts.getD i (0, 0)).1.toNat 0 = own.getD (cuts.getD i (0, 0)).2.toNat 0)
def p3 (n : Int) (L : List (List Int)) (nums : List Int) (i : Nat) : Bool := lbOk n (L.getD i []) && inB (nums.getD i 0) 0 99991
def p4c (l : List Sd) (i : Nat) (y : Sd) : Bool := decide (y.1 = y.2.1) && (inB y.2.2.2.2.2 1 3 && decide (sA l y.1 = (i : Int)))
def p4 (l : List Sd) (i : Nat) : Bool := p4c l i (l.getD i (0, 0, 0, 0, 0, 0))
abbrev oP1 (k : Nat) (l : List Int) : Prop := ∀ i, i < l.length → p1 k l i = true
abbrev oP2 (own : List Int) (cuts : List Ed) : Prop := ∀ i, i < cuts.length → p2 own cuts i = true
abbrev oP3 (n : Int) (L : List (List Int)) (nums : List Int) : Prop := ∀ i, i < L.length → p3 n L nums i = true
abbrev oP4 (l : List Sd) : Prop := ∀ i, i < l.length → p4 l i = true
theorem cutStep (own : List Int) (cuts : List Ed) (n : Int) (he : eOk n cuts = true) (hn : (own.length : Int) = n) {B : Type} (self : Int → Option (Unit ⊕ Bool)) (i : Nat) (y : Ed) (hy : cuts[i]? = some y) (hl : cuts.length ≤ 1048576) :
    (bnd own.length y.1 fun n12 =>
      Option.bind own[n12]? fun y13 =>
      bnd own.length y.2 fun n14 =>
      Option.bind own[n14]? fun y15 =>
      bif decide (y13 = y15) then some (Sum.inr false)
      else self (IntKind.wrap .i64 ((i : Int) + (1 : Int)))) = if p2 own cuts i then self ((i + 1 : Nat) : Int) else some (.inr false) := by
  have hm : maxLen = 9223372036854775807 := by decide
  have hi := (List.getElem?_eq_some_iff.1 hy).1
  subst hn
  have hb := edB_in ((eOk_srt he).1 y (List.mem_of_getElem? hy))
  have h1 : own[y.1.toNat]? = some (own[y.1.toNat]'(by omega)) := List.getElem?_eq_getElem (by omega)
  have h2 : own[y.2.toNat]? = some (own[y.2.toNat]'(by omega)) := List.getElem?_eq_getElem (by omega)
  rw [bnd_ok (by omega) (by omega), h1, Option.bind_some, bnd_ok (by omega) (by omega), h2, Option.bind_some, wr1 (by omega)]
  unfold p2
  rw [gD hy, gD h1, gD h2]
  cases decide (own[y.1.toNat]'(by omega) = own[y.2.toNat]'(by omega)) <;> rfl
open Classical in
noncomputable def hdB (n : Int) (own : List Int) (cuts : List Ed) (L : List (List Int)) (nums : List Int) (said : List Sd) (t : Bool) : Bool :=
  decide ((inB n 1 12 = true ∧ inB (L.length : Int) 1 3 = true ∧ nums.length = L.length) ∧ oP3 n L nums ∧ ((own.length : Int) = n ∧ eOk n cuts = true) ∧ oP1 L.length own ∧ oP2 own cuts ∧ (oP4 said ∧ said.length ≤ 80) ∧ t = true)
def tkB (n : Int) (k : Nat) (nums : List Int) (said : List Sd) (id op a b sh : Int) (o : Or') : Bool :=
  tB id op a b sh o || ((inB id 1 100000 && (!decide (op = 3) && rtB n k op a b)) && (inB sh 1 k && (ordB n o && (decide (o.1 = IntKind.wrap .i64 (nums.getD (sh - 1).toNat 0 + 1)) && decide (sA said id < 0)))))
theorem w_itaskOk (x0 : Int) (x1 : List Int) (x2 : List Ed) (x3 : List (List Int)) (x4 : List Int) (x5 x6 x7 x8 x9 x10 x11 : Int) (x12 : List Ed) (x13 : Int) (x14 : List Sd) (h0 : 1 ≤ x0 ∧ x0 ≤ 12) (h4 : x4.length = x3.length) (hk : x3.length ≤ 3) (h12 : x12.length ≤ 1048576) (h14 : x14.length ≤ 1048576) :
    g_itaskOk (x0, x1, x2, x3, x4, x5, x6, x7, x8, x9, x10, x11, x12, x13, x14) = some (tkB x0 x3.length x4 x14 x5 x6 x7 x8 x9 (x10, x11, x12, x13), ()) := by
  show f_itaskOk BIG _ = _
  rw [e_itaskOk]
  dsimp only
  rw [h_inoTask x5 x6 x7 x8 x9 (x10, x11, x12, x13), Option.bind_some, h_ibadAsk _ _ _ _ _ _ _ _ _ _ _ _ _ _ _ _ _ _ _ h0]
  simp only [h_iin']
  unfold tkB
  cases tB x5 x6 x7 x8 x9 (x10, x11, x12, x13) with
  | true => rfl
  | false =>
    simp only [cond_false, Option.bind_some, Bool.false_or]
    cases inB x5 1 100000 with
    | false => rfl
    | true =>
      cases decide (x6 = 3) with
      | true => rfl
      | false =>
        cases rtB x0 x3.length x6 x7 x8 with
        | false => rfl
        | true =>
          simp only [Bool.not_true, cond_false, Option.bind_some, Bool.not_false, Bool.and_self, Bool.true_and]
          cases hs : inB x9 1 (x3.length : Int) with
          | false => rfl
          | true =>
            rw [h_iOrderOk x0 (x10, x11, x12, x13) h12]
            simp only [cond_true, Option.bind_some, Bool.true_and]
            cases ordB x0 (x10, x11, x12, x13) with
            | false => rfl
            | true =>
              rw [inB_t] at hs
              have h1 : x4[(x9 - 1).toNat]? = some (x4[(x9 - 1).toNat]'(by omega)) := List.getElem?_eq_getElem (by omega)
              rw [cond_true, wr (n := x9 - 1) (by omega) (by omega), bnd_ok (by omega) (by omega), h1, Option.bind_some, gD h1, w_isaidAt x14 x5 h14]
              simp only [Bool.true_and]
              cases decide (x10 = IntKind.wrap .i64 (x4[(x9 - 1).toNat]'(by omega) + 1)) <;> rfl
theorem w_sl12TaskOk (x0 : Int) (x1 : List Int) (x2 : List Ed) (x3 : List (List Int)) (x4 : List Int) (x5 x6 x7 x8 x9 x10 x11 : Int) (x12 : List Ed) (x13 : Int) (x14 : List Sd) (h0 : 1 ≤ x0 ∧ x0 ≤ 12) (h4 : x4.length = x3.length) (hk : x3.length ≤ 3) (h12 : x12.length ≤ 1048576) (h14 : x14.length ≤ 1048576) :
    g_sl12TaskOk (x0, x1, x2, x3, x4, x5, x6, x7, x8, x9, x10, x11, x12, x13, x14) = some (tkB x0 x3.length x4 x14 x5 x6 x7 x8 x9 (x10, x11, x12, x13), ()) := by
  have hm : maxLen = 9223372036854775807 := by decide
  show f_sl12TaskOk BIG _ = _
  rw [e_sl12TaskOk]
  dsimp only
  rw [h_sl12BlankTask x5 x6 x7 x8 x9 (x10, x11, x12, x13) (by simp only; omega), Option.bind_some, h_sl12Right _ _ _ _ _ _ _ _ _ _ _ _ _ _ _ _ _ _ _ h0, w_sl12Said _ _ _ _ _ _ _ _ _ _ _ _ _ _ _ _ h14]
  simp only [h_sl01In']
  unfold tkB
  cases tB x5 x6 x7 x8 x9 (x10, x11, x12, x13) with
  | true => rfl
  | false =>
    simp only [cond_false, Option.bind_some, Bool.false_or]
    cases hs : inB x9 1 (x3.length : Int) with
    | false => simp
    | true =>
      rw [h_sOrderOk x0 (x10, x11, x12, x13) h12]
      simp only [cond_true, Option.bind_some, Bool.true_and]
      cases ordB x0 (x10, x11, x12, x13) with
      | false => simp
      | true =>
        rw [inB_t] at hs
        have h1 : x4[(x9 - 1).toNat]? = some (x4[(x9 - 1).toNat]'(by omega)) := List.getElem?_eq_getElem (by omega)
        rw [cond_true, wr (n := x9 - 1) (by omega) (by omega), bnd_ok (by omega) (by omega), h1, Option.bind_some, gD h1]
        simp only [Bool.true_and]
        cases decide (x10 = IntKind.wrap .i64 (x4[(x9 - 1).toNat]'(by omega) + 1)) <;> cases decide (sA x14 x5 < 0) <;> cases rtB x0 x3.length x6 x7 x8 <;> cases decide (x6 = 3) <;> cases inB x5 1 100000 <;> rfl
open Classical in
theorem w_iownOk (x0 : Int) (x1 : List Int) (x2 : List Ed) (x3 : List (List Int)) (x4 : List Int) (x5 x6 x7 x8 x9 x10 x11 : Int) (x12 : List Ed) (x13 : Int) (x14 : List Sd) (h1 : x1.length ≤ 1048576) (h2 : x2.length ≤ 1048576) :
    g_iownOk (x0, x1, x2, x3, x4, x5, x6, x7, x8, x9, x10, x11, x12, x13, x14) = some (decide (((x1.length : Int) = x0 ∧ eOk x0 x2 = true) ∧ oP1 x3.length x1 ∧ oP2 x1 x2), ()) := by
  have hm : maxLen = 9223372036854775807 := by decide
  show f_iownOk BIG _ = _
  rw [e_iownOk]
  dsimp only
  rw [h_iedgesOk x0 x2 h2]
  by_cases hn : (x1.length : Int) = x0
  · cases he : eOk x0 x2 with
    | false => simp [hn]
    | true =>
      rw [decide_eq_true hn]
      simp only [Bool.not_true, cond_false, Option.bind_some]
      rw [allLoop x1 (by omega) (p1 x3.length x1) false]
      · by_cases hp : oP1 x3.length x1
        · rw [if_pos hp]
          simp only [Option.bind_some]
          rw [allLoop x2 (by omega) (p2 x1 x2) false]
          · by_cases hq : oP2 x1 x2
            · rw [if_pos hq, decide_eq_true (by exact ⟨⟨hn, by first | rfl | trivial | exact he⟩, hp, hq⟩)]; rfl
            · rw [if_neg hq, decide_eq_false (fun h => hq h.2.2)]; rfl
          · intro self i y hy
            have hi := (List.getElem?_eq_some_iff.1 hy).1
            simp only [show ((i : Int) < (x2.length : Int)) from by omega, decide_true, cond_true]
            rw [bnd_nat hi, hy, Option.bind_some]
            exact cutStep x1 x2 x0 he hn (B := Unit) self i y hy h2
          · intro self; simp
        · rw [if_neg hp, decide_eq_false (fun h => hp h.2.1)]; rfl
      · intro self i y hy
        have hi := (List.getElem?_eq_some_iff.1 hy).1
        simp only [show ((i : Int) < (x1.length : Int)) from by omega, decide_true, cond_true]
        rw [bnd_nat hi, hy, Option.bind_some, h_iin', Option.bind_some, wr1 (by omega)]
        unfold p1
        rw [gD hy]
        cases inB y 1 (x3.length : Int) <;> rfl
      · intro self; simp
  · rw [decide_eq_false hn]
    simp [hn]
open Classical in
theorem w_isaidOk (l : List Sd) (hl : l.length ≤ 1048576) : g_isaidOk l = some (decide (oP4 l ∧ l.length ≤ 80), ()) := by
  have hm : maxLen = 9223372036854775807 := by decide
  show f_isaidOk BIG _ = _
  rw [e_isaidOk]
  rw [allLoop l (by omega) (p4 l) false]
  · by_cases hp : oP4 l
    · rw [if_pos hp]
      by_cases hq : l.length ≤ 80
      · have e : decide (oP4 l ∧ l.length ≤ 80) = true := decide_eq_true ⟨hp, hq⟩
        have e2 : decide ((l.length : Int) ≤ 80) = true := decide_eq_true (by omega)
        rw [e, e2]; rfl
      · have e : decide (oP4 l ∧ l.length ≤ 80) = false := decide_eq_false (fun h => hq h.2)
        have e2 : decide ((l.length : Int) ≤ 80) = false := decide_eq_false (by omega)
        rw [e, e2]; rfl
    · have e : decide (oP4 l ∧ l.length ≤ 80) = false := decide_eq_false (fun h => hp h.1)
      rw [if_neg hp, e]; rfl
  · intro self i y hy
    have hi := (List.getElem?_eq_some_iff.1 hy).1
    simp only [show ((i : Int) < (l.length : Int)) from by omega, decide_true, cond_true]
    rw [bnd_nat hi, hy, Option.bind_some, h_iin', wr1 (by omega), decide_eq_true (show (0 : Int) ≤ (i : Int) from by omega), decide_eq_true (show 0 ≤ Int.toNat (i : Int) ∧ Int.toNat (i : Int) ≤ l.length from ⟨by omega, by omega⟩), Int.toNat_natCast, Nat.sub_zero, List.drop_zero, w_isaidAt _ _ (by rw [List.length_take]; omega)]
    simp only [cond_true, Option.bind_some]
    rw [sA_take hy]
    unfold p4
    rw [gD hy]
    unfold p4c
    cases decide (y.1 = y.2.1) <;> cases inB y.2.2.2.2.2 1 3 <;> cases decide (sA l y.1 = (i : Int)) <;> rfl
  · intro self; simp
theorem hd_t {n : Int} {own : List Int} {cuts : List Ed} {L : List (List Int)} {nums : List Int} {said : List Sd} {t : Bool} (h : (inB n 1 12 = true ∧ inB (L.length : Int) 1 3 = true ∧ nums.length = L.length) ∧ oP3 n L nums ∧ ((own.length : Int) = n ∧ eOk n cuts = true) ∧ oP1 L.length own ∧ oP2 own cuts ∧ (oP4 said ∧ said.length ≤ 80) ∧ t = true) : hdB n own cuts L nums said t = true := by
  unfold hdB; exact decide_eq_true h
theorem hd_f {n : Int} {own : List Int} {cuts : List Ed} {L : List (List Int)} {nums : List Int} {said : List Sd} {t : Bool} (h : (inB n 1 12 = true ∧ inB (L.length : Int) 1 3 = true ∧ nums.length = L.length) ∧ oP3 n L nums ∧ ((own.length : Int) = n ∧ eOk n cuts = true) ∧ oP1 L.length own ∧ oP2 own cuts ∧ (oP4 said ∧ said.length ≤ 80) ∧ t = true → False) : hdB n own cuts L nums said t = false := by
  unfold hdB; exact decide_eq_false h
open Classical in
theorem w_iHeadOk (x0 : Int) (x1 : List Int) (x2 : List Ed) (x3 : List (List Int)) (x4 : List Int) (x5 x6 x7 x8 x9 x10 x11 : Int) (x12 : List Ed) (x13 : Int) (x14 : List Sd) (h1 : x1.length ≤ 1048576) (h2 : x2.length ≤ 1048576) (h3 : x3.length ≤ 1048576 ∧ ∀ y, y ∈ x3 → y.length ≤ 1048576) (h12 : x12.length ≤ 1048576) (h14 : x14.length ≤ 1048576) :
    g_iHeadOk (x0, x1, x2, x3, x4, x5, x6, x7, x8, x9, x10, x11, x12, x13, x14) = some (hdB x0 x1 x2 x3 x4 x14 (tkB x0 x3.length x4 x14 x5 x6 x7 x8 x9 (x10, x11, x12, x13)), ()) := by
  have hm : maxLen = 9223372036854775807 := by decide
  show f_iHeadOk BIG _ = _
  rw [e_iHeadOk]
  dsimp only
  rw [w_iownOk _ _ _ _ _ _ _ _ _ _ _ _ _ _ _ h1 h2, w_isaidOk _ h14]
  simp only [h_iin']
  cases ha : inB x0 1 12 with
  | false => rw [hd_f (fun h => by rw [ha] at h; cases h.1.1)]; rfl
  | true =>
    cases hb : inB (x3.length : Int) 1 3 with
    | false => rw [hd_f (fun h => by rw [hb] at h; cases h.1.2.1)]; rfl
    | true =>
      by_cases hc : x4.length = x3.length
      · rw [decide_eq_true (show (x4.length : Int) = (x3.length : Int) from by omega)]
        simp only [Bool.not_true, cond_false, Option.bind_some]
        rw [allLoop x3 (by omega) (p3 x0 x3 x4) false]
        · by_cases hp : oP3 x0 x3 x4
          · rw [if_pos hp]
            have ha0 := ha
            have hb0 := hb
            rw [inB_t] at ha hb
            rw [w_itaskOk _ _ _ _ _ _ _ _ _ _ _ _ _ _ _ ha hc (by omega) h12 h14]
            simp only [Option.bind_some]
            by_cases q1 : ((x1.length : Int) = x0 ∧ eOk x0 x2 = true) ∧ oP1 x3.length x1 ∧ oP2 x1 x2
            · by_cases q2 : oP4 x14 ∧ x14.length ≤ 80
              · cases q3 : tkB x0 x3.length x4 x14 x5 x6 x7 x8 x9 (x10, x11, x12, x13) with
                | false => rw [decide_eq_true q1, decide_eq_true q2, hd_f (fun h => by cases h.2.2.2.2.2.2)]; rfl
                | true => rw [decide_eq_true q1, decide_eq_true q2, hd_t ⟨⟨ha0, hb0, hc⟩, hp, q1.1, q1.2.1, q1.2.2, q2, rfl⟩]; rfl
              · rw [decide_eq_true q1, decide_eq_false q2, hd_f (fun h => q2 h.2.2.2.2.2.1)]; rfl
            · rw [decide_eq_false q1, hd_f (fun h => q1 ⟨h.2.2.1, h.2.2.2.1, h.2.2.2.2.1⟩)]; rfl
          · rw [if_neg hp, hd_f (fun h => hp h.2.1)]; rfl
        · intro self i y hy
          have hi := (List.getElem?_eq_some_iff.1 hy).1
          have hz : x4[i]? = some (x4[i]'(by omega)) := List.getElem?_eq_getElem (by omega)
          simp only [show ((i : Int) < (x3.length : Int)) from by omega, decide_true, cond_true]
          simp only [bnd_nat hi, hy, Option.bind_some, h_ilabelsOk x0 y (h3.2 y (List.mem_of_getElem? hy)), bnd_nat (show i < x4.length from by omega), hz, wr1 (show i < maxLen from by omega)]
          unfold p3
          rw [gD hy, gD hz]
          cases lbOk x0 y <;> cases inB (x4[i]'(by omega)) 0 99991 <;> rfl
        · intro self; simp
      · rw [decide_eq_false (show ¬ (x4.length : Int) = (x3.length : Int) from by omega), hd_f (fun h => hc h.1.2.2)]; rfl
open Classical in
theorem w_sHeadOk (x0 : Int) (x1 : List Int) (x2 : List Ed) (x3 : List (List Int)) (x4 : List Int) (x5 x6 x7 x8 x9 x10 x11 : Int) (x12 : List Ed) (x13 : Int) (x14 : List Sd) (h1 : x1.length ≤ 1048576) (h2 : x2.length ≤ 1048576) (h3 : x3.length ≤ 1048576 ∧ ∀ y, y ∈ x3 → y.length ≤ 1048576) (h12 : x12.length ≤ 1048576) (h14 : x14.length ≤ 1048576) :
    g_sHeadOk (x0, x1, x2, x3, x4, x5, x6, x7, x8, x9, x10, x11, x12, x13, x14) = some (hdB x0 x1 x2 x3 x4 x14 (tkB x0 x3.length x4 x14 x5 x6 x7 x8 x9 (x10, x11, x12, x13)), ()) := by
  have hm : maxLen = 9223372036854775807 := by decide
  show f_sHeadOk BIG _ = _
  rw [e_sHeadOk]
  dsimp only
  rw [h_sl05Edges x0 x2 h2]
  simp only [h_sl01In']
  cases ha : inB x0 1 12 with
  | false => rw [hd_f (fun h => by rw [ha] at h; cases h.1.1)]; rfl
  | true =>
    cases hb : inB (x3.length : Int) 1 3 with
    | false => rw [hd_f (fun h => by rw [hb] at h; cases h.1.2.1)]; rfl
    | true =>
      by_cases hc : x4.length = x3.length
      · rw [decide_eq_true (show (x4.length : Int) = (x3.length : Int) from by omega)]
        simp only [Bool.not_true, cond_false, Option.bind_some]
        by_cases hn : (x1.length : Int) = x0
        · rw [decide_eq_true hn]
          cases he : eOk x0 x2 with
          | false => rw [hd_f (fun h => by rw [he] at h; cases h.2.2.1.2)]; rfl
          | true =>
            simp only [Bool.not_true, cond_false, Option.bind_some]
            by_cases hs : x14.length ≤ 80
            · rw [decide_eq_false (show ¬ (80 : Int) < (x14.length : Int) from by omega), cond_false]
              rw [allLoop x3 (by omega) (p3 x0 x3 x4) false]
              · by_cases hp : oP3 x0 x3 x4
                · rw [if_pos hp]
                  simp only [Option.bind_some]
                  have L1 := allLoop x1 (by omega) (p1 x3.length x1) false (F := fun (self16 : Int → Option (Unit ⊕ Bool)) (x15 : Int) =>
                     bif decide (x15 < x0) then
                      bnd x1.length x15 fun n17 =>
                      Option.bind x1[n17]? fun y18 =>
                      bif !inB y18 (1 : Int) (x3.length : Int) then
                       some (Sum.inr false)
                      else self16 (IntKind.wrap .i64 (x15 + (1 : Int)))
                     else some (Sum.inl ())) (by
                    intro self i y hy
                    have hi := (List.getElem?_eq_some_iff.1 hy).1
                    simp only [show ((i : Int) < x0) from by omega, decide_true, cond_true]
                    rw [bnd_nat hi, hy, Option.bind_some, wr1 (by omega)]
                    unfold p1
                    rw [gD hy]
                    cases inB y 1 (x3.length : Int) <;> rfl) (by
                    intro self
                    simp [hn])
                  rw [L1]
                  by_cases hp1 : oP1 x3.length x1
                  · rw [if_pos hp1]
                    simp only [Option.bind_some]
                    rw [allLoop x2 (by omega) (p2 x1 x2) false]
                    · by_cases hp2 : oP2 x1 x2
                      · rw [if_pos hp2]
                        simp only [Option.bind_some]
                        rw [allLoop x14 (by omega) (p4 x14) false]
                        · by_cases hp4 : oP4 x14
                          · rw [if_pos hp4]
                            have ha0 := ha
                            have hb0 := hb
                            rw [inB_t] at ha hb
                            simp only [Option.bind_some]
                            rw [w_sl12TaskOk _ _ _ _ _ _ _ _ _ _ _ _ _ _ _ ha hc (by omega) h12 h14]
                            simp only [Option.bind_some]
                            cases q3 : tkB x0 x3.length x4 x14 x5 x6 x7 x8 x9 (x10, x11, x12, x13) with
                            | false => rw [hd_f (fun h => by cases h.2.2.2.2.2.2)]
                            | true => rw [hd_t ⟨⟨ha0, hb0, hc⟩, hp, ⟨hn, he⟩, hp1, hp2, ⟨hp4, hs⟩, rfl⟩]
                          · rw [if_neg hp4, hd_f (fun h => hp4 h.2.2.2.2.2.1.1)]; rfl
                        · intro self i y hy
                          have hi := (List.getElem?_eq_some_iff.1 hy).1
                          simp only [show ((i : Int) < (x14.length : Int)) from by omega, decide_true, cond_true]
                          simp only [bnd_nat hi, hy, Option.bind_some, wr1 (show i < maxLen from by omega), w_sl12Said _ _ _ _ _ _ _ _ _ _ _ _ _ _ _ _ h14]
                          unfold p4
                          rw [gD hy]
                          unfold p4c
                          cases decide (y.1 = y.2.1) <;> cases inB y.2.2.2.2.2 1 3 <;> cases decide (sA x14 y.1 = (i : Int)) <;> rfl
                        · intro self; simp
                      · rw [if_neg hp2, hd_f (fun h => hp2 h.2.2.2.2.1)]; rfl
                    · intro self i y hy
                      have hi := (List.getElem?_eq_some_iff.1 hy).1
                      simp only [show ((i : Int) < (x2.length : Int)) from by omega, decide_true, cond_true]
                      simp only [bnd_nat hi, hy, Option.bind_some]
                      exact cutStep x1 x2 x0 he hn (B := Unit) self i y hy h2
                    · intro self; simp
                  · rw [if_neg hp1, hd_f (fun h => hp1 h.2.2.2.1)]; rfl
                · rw [if_neg hp, hd_f (fun h => hp h.2.1)]; rfl
              · intro self i y hy
                have hi := (List.getElem?_eq_some_iff.1 hy).1
                have hz : x4[i]? = some (x4[i]'(by omega)) := List.getElem?_eq_getElem (by omega)
                simp only [show ((i : Int) < (x3.length : Int)) from by omega, decide_true, cond_true]
                simp only [bnd_nat hi, hy, Option.bind_some, h_sl09Labels x0 y (h3.2 y (List.mem_of_getElem? hy)), bnd_nat (show i < x4.length from by omega), hz, wr1 (show i < maxLen from by omega)]
                unfold p3
                rw [gD hy, gD hz]
                cases lbOk x0 y <;> cases inB (x4[i]'(by omega)) 0 99991 <;> rfl
              · intro self; simp
            · rw [decide_eq_true (show (80 : Int) < (x14.length : Int) from by omega), hd_f (fun h => hs h.2.2.2.2.2.1.2)]; rfl
        · rw [decide_eq_false hn, hd_f (fun h => hn h.2.2.1.1)]; rfl
      · rw [decide_eq_false (show ¬ (x4.length : Int) = (x3.length : Int) from by omega), hd_f (fun h => hc h.1.2.2)]; rfl
theorem law_lFnExactHeadOk (x0 : Int) (x1 : List Int) (x2 : List Ed) (x3 : List (List Int)) (x4 : List Int) (x5 x6 x7 x8 x9 x10 x11 : Int) (x12 : List Ed) (x13 : Int) (x14 : List (Int × Int × Int × Int × Int × Int))
    (q1 : x1.length ≤ maxLen) (q2 : x2.length ≤ maxLen) (q3 : B_IntSS x3) (q4 : x4.length ≤ maxLen) (q12 : x12.length ≤ maxLen) (q14 : x14.length ≤ maxLen) : g_lFnExactHeadOk (x0, x1, x2, x3, x4, x5, x6, x7, x8, x9, x10, x11, x12, x13, x14) = some (true, ()) := by
  show f_lFnExactHeadOk BIG _ = _
  rw [e_lFnExactHeadOk]
  have hs := sz_Head x0 x1 x2 x3 x4 x5 x6 x7 x8 x9 x10 x11 x12 x13 x14 1048576 (by omega) (by omega) q1 q2 q3 q4 q12 q14
  by_cases hz : ((x1.length + x2.length + z_IntSS x3 + x4.length + x12.length + x14.length : Nat) : Int) ≤ 1048576
  case neg =>
    rw [if_neg hz] at hs
    rw [hs]; rfl
  rw [if_pos hz] at hs
  have hz' : x1.length + x2.length + z_IntSS x3 + x4.length + x12.length + x14.length ≤ 1048576 := by omega
  have hz3 : x3.length ≤ z_IntSS x3 := Nat.le_add_right _ _
  have h3 : x3.length ≤ 1048576 ∧ ∀ y, y ∈ x3 → y.length ≤ 1048576 := ⟨by omega, fun y hy => by have := z_IntSS_mem hy; omega⟩
  simp only [hs, Option.bind_some, decide_eq_false (show ¬ ((1048576 : Int) - ((x1.length + x2.length + z_IntSS x3 + x4.length + x12.length + x14.length : Nat) : Int) < 0) from by omega), cond_false, to_Head x0 x1 x2 x3 x4 x5 x6 x7 x8 x9 x10 x11 x12 x13 x14 hz', w_iHeadOk x0 x1 x2 x3 x4 x5 x6 x7 x8 x9 x10 x11 x12 x13 x14 (by omega) (by omega) h3 (by omega) (by omega), w_sHeadOk x0 x1 x2 x3 x4 x5 x6 x7 x8 x9 x10 x11 x12 x13 x14 (by omega) (by omega) h3 (by omega) (by omega), beq_self_eq_true, Bool.not_true, eq_Head x0 x1 x2 x3 x4 x5 x6 x7 x8 x9 x10 x11 x12 x13 x14 (by omega)]
end Go.Fw
