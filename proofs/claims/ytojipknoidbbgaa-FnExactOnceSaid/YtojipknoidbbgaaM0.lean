/- What the given functions come to. No conditions. -/
import Derived.Test.YtojipknoidbbgaaX1
import Derived.IntWalk
set_option linter.unusedVariables false
set_option linter.unusedSimpArgs false
namespace Go.Fw

theorem loop_rel {X B : Type} {F : (X → Option B) → X → Option B} (I : X → Prop) (μ : X → Nat) (Q : X → B → Prop)
    (h : ∀ self x, I x → (∀ y, I y → μ y < μ x → ∃ b, self y = some b ∧ Q y b) → ∃ b, F self x = some b ∧ Q x b) : ∀ {n : Nat} {x : X}, μ x < n → I x → ∃ b, loopT n F x = some b ∧ Q x b
  | 0, _, hn, _ => absurd hn (Nat.not_lt_zero _)
  | n + 1, x, hn, hi => h (it F n) x hi fun _ hy hm => loop_rel I μ Q h (n := n) (by omega) hy
theorem loop_eq {X B : Type} {F : (X → Option B) → X → Option B} (I : X → Prop) (μ : X → Nat) (R : X → B)
    (h : ∀ self x, I x → (∀ y, I y → μ y < μ x → self y = some (R y)) → F self x = some (R x)) {n : Nat} {x : X} (hn : μ x < n) (hi : I x) : loopT n F x = some (R x) := by
  obtain ⟨b, h1, h2⟩ := loop_rel (F := F) I μ (fun x b => b = R x) (fun self x hx hs => ⟨_, h self x hx fun y hy hm => by obtain ⟨b, h1, h2⟩ := hs y hy hm; rw [h1, h2], rfl⟩) hn hi
  rw [h1, h2]
theorem wr {n : Int} (h : -9223372036854775808 ≤ n) (h' : n ≤ 9223372036854775807) : IntKind.wrap .i64 n = n := by
  rw [IntKind.wrap_i64]; omega
theorem wr1 {i : Nat} (h : i < maxLen) : IntKind.wrap .i64 ((i : Int) + 1) = ((i + 1 : Nat) : Int) := by
  have : maxLen = 9223372036854775807 := by decide
  rw [wr (by omega) (by omega)]; rfl
theorem bnd_ok {B : Type} {len : Nat} {i : Int} {k : Nat → Option B} (h : 0 ≤ i) (h' : i < len) : bnd len i k = k i.toNat := by
  unfold bnd
  rw [if_pos ⟨h, by omega⟩]
theorem bnd_nat {B : Type} {len : Nat} {i : Nat} {k : Nat → Option B} (h' : i < len) : bnd len (i : Int) k = k i := by
  rw [bnd_ok (Int.natCast_nonneg i) (by omega)]
  simp
/-- A loop that copies a row. -/
theorem cpLoop {α : Type} (a : List α) (hl : a.length < 18446744073709551616) {z : α} {F : (List α × Int → Option (List α)) → List α × Int → Option (List α)}
    (hF : ∀ self out (i : Nat) y, out.length = a.length → a[i]? = some y → F self (out, (i : Int)) = self (out.set i y, ((i + 1 : Nat) : Int)))
    (hE : ∀ self out, out.length = a.length → F self (out, (a.length : Int)) = some out) : loopT BIG F (List.replicate a.length z, 0) = some a := by
  have := loop_eq (F := F) (fun x => ∃ i : Nat, x.2 = i ∧ i ≤ a.length ∧ x.1.length = a.length ∧ x.1.take i = a.take i) (fun x => a.length - x.2.toNat) (fun _ => a) (fun self x ⟨i, h1, h2, h3, h4⟩ hs => ?_) (n := BIG) (x := (List.replicate a.length z, 0)) (by simp; exact hl) ⟨0, rfl, by simp, by simp, by simp⟩
  · exact this
  · obtain ⟨out, j⟩ := x
    simp only at h1 h2 h3 h4
    subst h1
    by_cases hi : i < a.length
    · rw [hF self out i a[i] h3 (List.getElem?_eq_getElem hi)]
      refine hs _ ⟨i + 1, rfl, hi, by simpa using h3, ?_⟩ (by simp; omega)
      rw [List.take_set, List.take_succ_eq_append_getElem (by omega : i < out.length), List.take_succ_eq_append_getElem hi, h4, List.set_append_right _ _ (by simp; omega)]
      simp [Nat.min_eq_left h2]
    · have : i = a.length := by omega
      subst this
      rw [hE self out h3]
      rw [List.take_of_length_le (by omega), List.take_of_length_le (by omega)] at h4
      rw [h4]
/-- A loop that goes through a row, and is left at the first place where it is told so. -/
theorem allLoop {α B : Type} (a : List α) (hl : a.length < 18446744073709551616) {F : (Int → Option (Unit ⊕ B)) → Int → Option (Unit ⊕ B)} (p : Nat → Bool) (b : B)
    (hF : ∀ self (i : Nat) y, a[i]? = some y → F self (i : Int) = if p i then self ((i + 1 : Nat) : Int) else some (.inr b))
    (hE : ∀ self, F self (a.length : Int) = some (.inl ())) : loopT BIG F 0 = some (if ∀ i, i < a.length → p i = true then .inl () else .inr b) := by
  have hh := loop_rel (F := F) (fun x => ∃ i : Nat, x = i ∧ i ≤ a.length) (fun x => a.length - x.toNat) (fun x r => ((∀ i : Nat, x ≤ (i : Int) → i < a.length → p i = true) ∧ r = .inl ()) ∨ ((∃ i : Nat, i < a.length ∧ p i = false) ∧ r = .inr b)) (fun self x ⟨i, h1, h2⟩ hs => ?_) (n := BIG) (x := 0) (by simp; exact hl) ⟨0, rfl, by simp⟩
  · obtain ⟨r, hr, hq⟩ := hh
    rw [hr]
    congr 1
    rcases hq with ⟨h1, rfl⟩ | ⟨⟨i, h1, h2⟩, rfl⟩
    · rw [if_pos fun i hi => h1 i (by omega) hi]
    · rw [if_neg]
      intro h
      rw [h i h1] at h2; cases h2
  · subst h1
    by_cases hi : i < a.length
    · rw [hF self i a[i] (List.getElem?_eq_getElem hi)]
      cases hp : p i with
      | true =>
        rw [if_pos rfl]
        obtain ⟨r, hr, hq⟩ := hs _ ⟨i + 1, rfl, hi⟩ (by simp; omega)
        refine ⟨r, hr, ?_⟩
        rcases hq with ⟨h1, rfl⟩ | h1
        · refine .inl ⟨fun k hk hk' => ?_, rfl⟩
          by_cases h : k = i
          · subst h; exact hp
          · exact h1 k (by omega) hk'
        · exact .inr h1
      | false => exact ⟨_, rfl, .inr ⟨⟨i, hi, hp⟩, rfl⟩⟩
    · have : i = a.length := by omega
      subst this
      exact ⟨_, hE self, .inl ⟨fun k hk hk' => by omega, rfl⟩⟩
theorem maxLen_lt : maxLen < 18446744073709551616 := by decide
/-- Two rows that are looked at side by side. -/
theorem eqLoop {α B : Type} [DecidableEq α] (a b : List α) (hl : a.length ≤ maxLen) (hab : a.length = b.length) {F : (Int → Option (Unit ⊕ B)) → Int → Option (Unit ⊕ B)} (r : B)
    (hF : ∀ self (i : Nat) x y, a[i]? = some x → b[i]? = some y → F self (i : Int) = if x = y then self ((i + 1 : Nat) : Int) else some (.inr r))
    (hE : ∀ self, F self (a.length : Int) = some (.inl ())) : loopT BIG F 0 = some (if a = b then .inl () else .inr r) := by
  rw [allLoop a (Nat.lt_of_le_of_lt hl maxLen_lt) (fun i => decide (a[i]? = b[i]?)) r (fun self i y hy => ?_) hE]
  · congr 1
    by_cases h : a = b
    · subst h; simp
    · rw [if_neg h, if_neg]
      intro h'
      apply h
      apply List.ext_getElem? fun i => ?_
      by_cases hi : i < a.length
      · simpa using h' i hi
      · rw [List.getElem?_eq_none (by omega), List.getElem?_eq_none (by omega)]
  · have hi := (List.getElem?_eq_some_iff.1 hy).1
    have hb : b[i]? = some (b[i]'(by omega)) := List.getElem?_eq_getElem (by omega)
    rw [hF self i y _ hy hb, hy, hb]
    simp
/-- A loop that goes through a row and keeps an account. -/
theorem foldLoop {α S B : Type} (a : List α) (hl : a.length < 18446744073709551616) {F : (S × Int → Option B) → S × Int → Option B} (I : Nat → S → Prop) (st : S → α → S) (R : S → B) {s0 : S} (h0 : I 0 s0)
    (hI : ∀ i s y, a[i]? = some y → I i s → I (i + 1) (st s y)) (hF : ∀ self s (i : Nat) y, a[i]? = some y → I i s → F self (s, (i : Int)) = self (st s y, ((i + 1 : Nat) : Int)))
    (hE : ∀ self s, I a.length s → F self (s, (a.length : Int)) = some (R s)) : loopT BIG F (s0, 0) = some (R (a.foldl st s0)) := by
  have := loop_eq (F := F) (fun x => ∃ i : Nat, x.2 = i ∧ i ≤ a.length ∧ I i x.1) (fun x => a.length - x.2.toNat) (fun x => R ((a.drop x.2.toNat).foldl st x.1)) (fun self x ⟨i, h1, h2, h3⟩ hs => ?_) (n := BIG) (x := (s0, 0)) (by simp; exact hl) ⟨0, rfl, by simp, h0⟩
  · simpa using this
  · obtain ⟨s, j⟩ := x
    simp only at h1 h2 h3
    subst h1
    by_cases hi : i < a.length
    · have hy := List.getElem?_eq_getElem hi
      rw [hF self s i a[i] hy h3, hs _ ⟨i + 1, rfl, hi, hI _ _ _ hy h3⟩ (by simp; omega)]
      simp only [Int.toNat_natCast]
      rw [List.drop_eq_getElem_cons hi, List.foldl_cons]
    · have : i = a.length := by omega
      subst this
      rw [hE self s h3]
      simp
/-- A loop that takes from what is left. -/
theorem szLoop {α B : Type} (a : List α) (z : α → Nat) (b : B) (l0 : Int) (h0 : 0 ≤ l0) (h0' : l0 ≤ 1048576) (hl : a.length < 18446744073709551616) {F : (Int × Int → Option (Int ⊕ B)) → Int × Int → Option (Int ⊕ B)}
    (hF : ∀ self (i : Nat) (l : Int) y, a[i]? = some y → 0 ≤ l → l ≤ 1048576 → F self (l, (i : Int)) = if (z y : Int) ≤ l then self (l - z y, ((i + 1 : Nat) : Int)) else some (.inr b))
    (hE : ∀ self l, F self (l, (a.length : Int)) = some (.inl l)) :
    loopT BIG F (l0, 0) = some (if ((a.map z).sum : Int) ≤ l0 then .inl (l0 - ((a.map z).sum : Nat)) else .inr b) := by
  have := loop_eq (F := F) (fun x => ∃ i : Nat, x.2 = i ∧ i ≤ a.length ∧ 0 ≤ x.1 ∧ x.1 ≤ 1048576) (fun x => a.length - x.2.toNat) (fun x => if (((a.drop x.2.toNat).map z).sum : Int) ≤ x.1 then .inl (x.1 - (((a.drop x.2.toNat).map z).sum : Nat)) else .inr b)
    (fun self x ⟨i, h1, h2, h3, h4⟩ hs => ?_) (n := BIG) (x := (l0, 0)) (by simp; exact hl) ⟨0, rfl, by simp, h0, h0'⟩
  · simpa using this
  · obtain ⟨l, j⟩ := x
    simp only at h1 h3 h4
    subst h1
    simp only [Int.toNat_natCast]
    by_cases hi : i < a.length
    · have hy := List.getElem?_eq_getElem hi
      rw [hF self i l _ hy h3 h4, List.drop_eq_getElem_cons hi, List.map_cons, List.sum_cons]
      by_cases hz : (z a[i] : Int) ≤ l
      · rw [if_pos hz, hs _ ⟨i + 1, rfl, hi, by simp only; omega, by simp only; omega⟩ (by simp only [Int.toNat_natCast]; omega)]
        simp only [Int.toNat_natCast]
        by_cases hq : (((a.drop (i + 1)).map z).sum : Int) ≤ l - z a[i]
        · rw [if_pos hq, if_pos (by omega)]
          congr 2
          omega
        · rw [if_neg hq, if_neg (by omega)]
      · rw [if_neg hz, if_neg (by omega)]
    · have : i = a.length := by omega
      subst this
      rw [hE self l, List.drop_length]
      simp [h3]
/-- Two vertices hang together by edges. -/
inductive Con (E : List (Int × Int)) : Int → Int → Prop
  | refl (v : Int) : Con E v v
  | fwd {u v w : Int} : Con E u v → (v, w) ∈ E → Con E u w
  | bwd {u v w : Int} : Con E u v → (w, v) ∈ E → Con E u w
theorem Con.trans {E : List (Int × Int)} {u v w : Int} (h : Con E u v) (h' : Con E v w) : Con E u w := by
  induction h' with
  | refl => exact h
  | fwd _ he ih => exact .fwd ih he
  | bwd _ he ih => exact .bwd ih he
theorem Con.symm {E : List (Int × Int)} {u v : Int} (h : Con E u v) : Con E v u := by
  induction h with
  | refl => exact .refl _
  | fwd _ he ih => exact Con.trans (.bwd (.refl _) he) ih
  | bwd _ he ih => exact Con.trans (.fwd (.refl _) he) ih
theorem Con.mono {E E' : List (Int × Int)} (hE : ∀ e, e ∈ E → e ∈ E') {u v : Int} (h : Con E u v) : Con E' u v := by
  induction h with
  | refl => exact .refl _
  | fwd _ he ih => exact .fwd ih (hE _ he)
  | bwd _ he ih => exact .bwd ih (hE _ he)
theorem Con.of {E : List (Int × Int)} {u v : Int} (h : (u, v) ∈ E) : Con E u v := .fwd (.refl _) h
theorem Con.nil {u v : Int} (h : Con [] u v) : u = v := by
  induction h with
  | refl => rfl
  | fwd _ he _ => cases he
  | bwd _ he _ => cases he
/-- Edges of so many vertices. -/
def EIn (n : Nat) (E : List (Int × Int)) : Prop := ∀ e, e ∈ E → 0 ≤ e.1 ∧ e.1 < n ∧ 0 ≤ e.2 ∧ e.2 < n
theorem Con.range {n : Nat} {E : List (Int × Int)} (hE : EIn n E) {u v : Int} (h : Con E u v) (hu : 0 ≤ u ∧ u < n) : 0 ≤ v ∧ v < n := by
  induction h with
  | refl => exact hu
  | fwd _ he _ => exact ⟨(hE _ he).2.2.1, (hE _ he).2.2.2⟩
  | bwd _ he _ => exact ⟨(hE _ he).1, (hE _ he).2.1⟩
/-- Labels: to each vertex the least one that it hangs together with. -/
def Lab (n : Nat) (E : List (Int × Int)) (l : List Int) : Prop :=
  l.length = n ∧ ∀ (v : Nat) (x : Int), l[v]? = some x → Con E v x ∧ 0 ≤ x ∧ ∀ u : Int, 0 ≤ u → Con E v u → x ≤ u
theorem Lab.le {n : Nat} {E : List (Int × Int)} {l : List Int} (h : Lab n E l) {v : Nat} {x : Int} (hx : l[v]? = some x) : x ≤ v :=
  (h.2 v x hx).2.2 v (Int.natCast_nonneg v) (.refl _)
theorem Lab.lt {n : Nat} {E : List (Int × Int)} {l : List Int} (h : Lab n E l) {v : Nat} {x : Int} (hx : l[v]? = some x) : 0 ≤ x ∧ x < n := by
  have h1 := h.le hx
  have h2 := (List.getElem?_eq_some_iff.1 hx).1
  have h3 := (h.2 v x hx).2.1
  have h4 := h.1
  omega
theorem Lab.iff {n : Nat} {E : List (Int × Int)} {l : List Int} (h : Lab n E l) {u v : Nat} {x y : Int} (hx : l[u]? = some x) (hy : l[v]? = some y) : x = y ↔ Con E u v := by
  have h1 := h.2 u x hx
  have h2 := h.2 v y hy
  constructor
  · intro e
    subst e
    exact h1.1.trans h2.1.symm
  · intro c
    have a := h1.2.2 y h2.2.1 (c.trans h2.1)
    have b := h2.2.2 x h1.2.1 (c.symm.trans h1.1)
    omega
/-- A label is its own label. -/
theorem Lab.self {n : Nat} {E : List (Int × Int)} {l : List Int} (h : Lab n E l) {v : Nat} {x : Int} (hx : l[v]? = some x) : l[x.toNat]? = some x := by
  have h1 := h.lt hx
  have hi : x.toNat < l.length := by rw [h.1]; omega
  rw [List.getElem?_eq_getElem hi]
  have h2 := h.2 v x hx
  have hc : Con E (x.toNat : Int) v := by rw [Int.toNat_of_nonneg h1.1]; exact h2.1.symm
  rw [(h.iff (List.getElem?_eq_getElem hi) hx).2 hc]
/-- Labels without edges. -/
def lab0 (n : Nat) : List Int := (List.range n).map fun (i : Nat) => (i : Int)
theorem lab0_get {n v : Nat} {x : Int} (h : (lab0 n)[v]? = some x) : v < n ∧ x = v := by
  have hi := (List.getElem?_eq_some_iff.1 h).1
  simp only [lab0, List.length_map, List.length_range] at hi
  simp only [lab0, List.getElem?_map, List.getElem?_range hi, Option.map_some, Option.some.injEq] at h
  exact ⟨hi, h.symm⟩
theorem lab0_len (n : Nat) : (lab0 n).length = n := by simp [lab0]
theorem Lab.zero (n : Nat) : Lab n [] (lab0 n) := by
  refine ⟨lab0_len n, fun v x h => ?_⟩
  obtain ⟨_, rfl⟩ := lab0_get h
  exact ⟨.refl _, Int.natCast_nonneg v, fun u _ h => by rw [h.nil]; exact Int.le_refl _⟩
section
variable {n : Nat} {E : List (Int × Int)} {L : List Int}
/-- On the way down to the labels. -/
def Dn (n : Nat) (E : List (Int × Int)) (l : List Int) : Prop := l.length = n ∧ ∀ (v : Nat) (x : Int), l[v]? = some x → Con E v x ∧ 0 ≤ x
theorem Dn.set {l : List Int} (h : Dn n E l) {v : Nat} {x : Int} (hc : Con E v x) (h0 : 0 ≤ x) : Dn n E (l.set v x) := by
  refine ⟨by simp [h.1], fun u y hu => ?_⟩
  rw [List.getElem?_set] at hu
  split at hu
  · subst v
    split at hu
    · cases hu; exact ⟨hc, h0⟩
    · cases hu
  · exact h.2 u y hu
theorem getD_at {l : List Int} {i : Nat} (h : i < l.length) : l[i]? = some (l.getD i 0) := by
  rw [List.getD_eq_getElem?_getD, List.getElem?_eq_getElem h]; rfl
end
theorem h_sl01In (a b c : Int) : g_sl01In (a, b, c) = some (decide (b ≤ a) && decide (a ≤ c), ()) := by
  show f_sl01In BIG _ = _
  rw [e_sl01In]
  cases decide (b ≤ a) <;> rfl
theorem h_iin (a b c : Int) : g_iin (a, b, c) = some (decide (b ≤ a) && decide (a ≤ c), ()) := by
  show f_iin BIG _ = _
  rw [e_iin]
  cases decide (b ≤ a) <;> rfl
abbrev Ed := Int × Int
def insP (own : List Int) (s : Int) (y : Ed) : Bool := (decide (0 ≤ y.1) && decide (y.1 < own.length) && decide (own[y.1.toNat]? = some s)) && (decide (0 ≤ y.2) && decide (y.2 < own.length) && decide (own[y.2.toNat]? = some s))
theorem h_iowns (own : List Int) (h : own.length ≤ 1048576) (v s : Int) : g_iowns (own, v, s) = some (decide (0 ≤ v) && decide (v < own.length) && decide (own[v.toNat]? = some s), ()) := by
  show f_iowns BIG _ = _
  rw [e_iowns, h_iin, Option.bind_some, wr (by omega) (by omega)]
  by_cases h0 : 0 ≤ v
  · by_cases h1 : v < own.length
    · have hi : v.toNat < own.length := by omega
      rw [decide_eq_true h0, decide_eq_true h1, decide_eq_true (by omega)]
      simp only [Bool.and_self, cond_true]
      rw [bnd_ok h0 h1, List.getElem?_eq_getElem hi]
      simp
    · rw [decide_eq_true h0, decide_eq_false h1, decide_eq_false (by omega)]
      rfl
  · rw [decide_eq_false h0]
    rfl
theorem foldl_filter {α : Type} (p : α → Bool) : ∀ (l : List α) (s : List α), l.foldl (fun s y => if p y then s ++ [y] else s) s = s ++ l.filter p
  | [], s => by simp
  | y :: l, s => by
    rw [List.foldl_cons, foldl_filter p l]
    cases h : p y <;> simp [h]
theorem h_sInside (own : List Int) (es : List Ed) (s : Int) (h : own.length ≤ 1048576) (he : es.length ≤ 1048576) : g_sInside (own, es, s) = some (es.filter (insP own s), ()) := by
  have hm : maxLen = 9223372036854775807 := by decide
  show f_sInside BIG _ = _
  rw [e_sInside, foldLoop es (by omega) (fun i (c : List Ed) => c.length ≤ i) (fun c y => if insP own s y then c ++ [y] else c) id (by simp) (fun i c y _ (h : c.length ≤ i) => by show List.length (if _ then _ else _) ≤ _; split <;> (try simp) <;> omega)]
  · rw [foldl_filter]; rfl
  · intro self c i y hy (hc : c.length ≤ i)
    have hi := (List.getElem?_eq_some_iff.1 hy).1
    simp only [show ((i : Int) < (es.length : Int)) from by omega, decide_true, cond_true]
    rw [bnd_nat hi, hy, Option.bind_some, h_sl01In, Option.bind_some, h_sl01In, Option.bind_some, wr1 (by omega), wr (by omega) (by omega)]
    unfold insP
    by_cases a1 : 0 ≤ y.1
    · by_cases a2 : y.1 < own.length
      · by_cases b1 : 0 ≤ y.2
        · by_cases b2 : y.2 < own.length
          · have k1 : y.1.toNat < own.length := by omega
            have k2 : y.2.toNat < own.length := by omega
            rw [bnd_ok a1 a2, bnd_ok b1 b2, List.getElem?_eq_getElem k1, List.getElem?_eq_getElem k2]
            by_cases c1 : own[y.1.toNat] = s <;> by_cases c2 : own[y.2.toNat] = s <;> simp [a1, a2, b1, b2, c1, c2, show y.1 ≤ (own.length : Int) - 1 from by omega, show y.2 ≤ (own.length : Int) - 1 from by omega, show c.length + 1 ≤ 4294967296 from by omega]
          · have : ¬ y.2 ≤ (own.length : Int) - 1 := by omega
            simp [a1, a2, b1, b2, this]
        · simp [a1, a2, b1]
      · have : ¬ y.1 ≤ (own.length : Int) - 1 := by omega
        simp [a1, a2, this]
    · simp [a1]
  · intro self c hc
    simp
abbrev Sd := Int × Int × Int × Int × Int × Int
def inB (a b c : Int) : Bool := decide (b ≤ a) && decide (a ≤ c)
def edB (n : Int) (e : Ed) : Bool := inB n 1 12 && (inB e.1 0 (n - 1) && (inB e.2 0 (n - 1) && decide (e.1 < e.2)))
def lsB (x y : Ed) : Bool := decide (x.1 < y.1) || (decide (x.1 = y.1) && decide (x.2 < y.2))
theorem h_iahead (x y : Ed) : g_iahead (x, y) = some (lsB x y, ()) := by
  show f_iahead BIG _ = _
  rw [e_iahead]
  unfold lsB
  cases decide (x.1 < y.1) <;> cases decide (x.1 = y.1) <;> rfl
theorem h_sl05Less (x y : Ed) : g_sl05Less (x, y) = some (lsB x y, ()) := by
  show f_sl05Less BIG _ = _
  rw [e_sl05Less]
  unfold lsB
  cases decide (x.1 < y.1) <;> cases decide (x.1 = y.1) <;> rfl
def eP (n : Int) (es : List Ed) (i : Nat) : Bool := match es[i]? with
  | some y => edB n y && (match i with
    | 0 => true
    | j + 1 => match es[j]? with
      | some x => lsB x y
      | none => false)
  | none => false
def eOk (n : Int) (es : List Ed) : Bool := if ∀ i, i < es.length → eP n es i = true then decide ((es.length : Int) ≤ 66) else false
def lbP (l : List Int) (i : Nat) : Bool := match l[i]? with
  | some y => inB y 0 i && (match l[y.toNat]? with
    | some z => decide (z = y)
    | none => false)
  | none => false
def lbOk (n : Int) (l : List Int) : Bool := if (l.length : Int) = n then (if ∀ i, i < l.length → lbP l i = true then true else false) else false
theorem lsB_irrefl (x : Ed) : lsB x x = false := by simp [lsB]
theorem lsB_iff (x y : Ed) : lsB x y = true ↔ x.1 < y.1 ∨ (x.1 = y.1 ∧ x.2 < y.2) := by simp [lsB]
theorem lsB_trans {x y z : Ed} (h : lsB x y = true) (h' : lsB y z = true) : lsB x z = true := by
  rw [lsB_iff] at *; omega
theorem lsB_tri {x y : Ed} (h : lsB x y = false) (h' : lsB y x = false) : x = y := by
  have h1 : ¬ lsB x y = true := by simp [h]
  have h2 : ¬ lsB y x = true := by simp [h']
  rw [lsB_iff] at h1 h2
  exact Prod.ext (by omega) (by omega)
theorem lsB_asymm {x y : Ed} (h : lsB x y = true) : lsB y x = false := by
  cases h' : lsB y x with
  | false => rfl
  | true => have := lsB_trans h h'; rw [lsB_irrefl] at this; cases this
abbrev Srt (l : List Ed) : Prop := l.Pairwise (fun x y => lsB x y = true)
theorem srt_eq : ∀ {a b : List Ed}, Srt a → Srt b → (∀ x, x ∈ a ↔ x ∈ b) → a = b
  | [], [], _, _, _ => rfl
  | [], y :: b, _, _, h => absurd ((h y).2 (by simp)) (by simp)
  | x :: a, [], _, _, h => absurd ((h x).1 (by simp)) (by simp)
  | x :: a, y :: b, ha, hb, h => by
    rw [Srt, List.pairwise_cons] at ha hb
    have hxy : x = y := by
      have h1 := (h x).1 (by simp)
      have h2 := (h y).2 (by simp)
      rcases List.mem_cons.1 h1 with h1 | h1
      · exact h1
      · rcases List.mem_cons.1 h2 with h2 | h2
        · exact h2.symm
        · have k1 := hb.1 x h1
          have k2 := ha.1 y h2
          rw [lsB_asymm k1] at k2; cases k2
    subst hxy
    congr 1
    refine srt_eq ha.2 hb.2 fun z => ⟨fun hz => ?_, fun hz => ?_⟩
    · rcases List.mem_cons.1 ((h z).1 (by simp [hz])) with h1 | h1
      · subst h1; have := ha.1 z hz; rw [lsB_irrefl] at this; cases this
      · exact h1
    · rcases List.mem_cons.1 ((h z).2 (by simp [hz])) with h1 | h1
      · subst h1; have := hb.1 z hz; rw [lsB_irrefl] at this; cases this
      · exact h1
def ins (l : List Ed) (e : Ed) : List Ed := l.filter (fun y => lsB y e) ++ [e] ++ l.filter (fun y => lsB e y)
theorem ins_mem {l : List Ed} {e x : Ed} : x ∈ ins l e ↔ x = e ∨ x ∈ l := by
  simp only [ins, List.mem_append, List.mem_filter, List.mem_singleton]
  constructor
  · rintro ((h | h) | h)
    · exact .inr h.1
    · exact .inl h
    · exact .inr h.1
  · rintro (h | h)
    · exact .inl (.inr h)
    · cases h1 : lsB x e with
      | true => exact .inl (.inl ⟨h, rfl⟩)
      | false =>
        cases h2 : lsB e x with
        | true => exact .inr ⟨h, rfl⟩
        | false => exact .inl (.inr (lsB_tri h1 h2))
theorem ins_srt {l : List Ed} {e : Ed} (h : Srt l) : Srt (ins l e) := by
  simp only [ins, Srt, List.append_assoc, List.pairwise_append, List.singleton_append, List.pairwise_cons]
  refine ⟨h.filter _, ⟨fun y hy => (List.mem_filter.1 hy).2, h.filter _⟩, fun x hx y hy => ?_⟩
  have h1 := (List.mem_filter.1 hx).2
  rcases List.mem_cons.1 hy with hy | hy
  · subst hy; exact h1
  · exact lsB_trans h1 (List.mem_filter.1 hy).2
theorem filter_two_len (e : Ed) : ∀ l : List Ed, (l.filter (fun y => lsB y e)).length + (l.filter (fun y => lsB e y)).length ≤ l.length
  | [] => by simp
  | y :: l => by
    have := filter_two_len e l
    simp only [List.filter_cons]
    cases h1 : lsB y e <;> cases h2 : lsB e y <;> simp
    · omega
    · omega
    · omega
    · rw [lsB_asymm h1] at h2; cases h2
theorem ins_len (l : List Ed) (e : Ed) : (ins l e).length ≤ l.length + 1 := by
  have := filter_two_len e l
  simp only [ins, List.length_append, List.length_singleton]
  omega
/-- How many of the first ones are ahead of it. -/
def fdI : List Ed → Ed → Nat
  | [], _ => 0
  | y :: l, e => if lsB y e then fdI l e + 1 else 0
theorem fdI_ins {l : List Ed} {e : Ed} (h : Srt l) (hne : e ∉ l) : l.take (fdI l e) ++ [e] ++ l.drop (fdI l e) = ins l e := by
  induction l with
  | nil => rfl
  | cons y l ih =>
    rw [Srt, List.pairwise_cons] at h
    have ih := ih h.2 (fun hh => hne (by simp [hh]))
    cases h1 : lsB y e with
    | true =>
      have h2 := lsB_asymm h1
      simp only [fdI, h1, if_true, List.take_succ_cons, List.drop_succ_cons, List.cons_append, ih]
      simp only [ins, List.filter_cons, h1, h2, if_true, List.cons_append]
      simp
    | false =>
      have h2 : lsB e y = true := by
        cases h2 : lsB e y with
        | true => rfl
        | false => exact absurd (lsB_tri h1 h2).symm (fun hh => hne (by simp [hh]))
      have h3 : ∀ z, z ∈ l → lsB z e = false ∧ lsB e z = true := fun z hz => by
        have := lsB_trans h2 (h.1 z hz)
        exact ⟨lsB_asymm this, this⟩
      have f1 : l.filter (fun y => lsB y e) = [] := by
        rw [List.filter_eq_nil_iff]; intro z hz; simp [(h3 z hz).1]
      have f2 : l.filter (fun y => lsB e y) = l := by
        rw [List.filter_eq_self]; intro z hz; exact (h3 z hz).2
      simp only [fdI, h1, ins, List.filter_cons, h2, if_true, f1, f2]
      simp
theorem h_sl05Has (l : List Ed) (e : Ed) (hl : l.length ≤ maxLen) : g_sl05Has (l, e) = some (decide (e ∈ l), ()) := by
  show f_sl05Has BIG _ = _
  rw [e_sl05Has, allLoop l (Nat.lt_of_le_of_lt hl maxLen_lt) (fun i => decide (l[i]? ≠ some e)) true (fun self i y hy => by
      have hi := (List.getElem?_eq_some_iff.1 hy).1
      simp only [show ((i : Int) < (l.length : Int)) from by omega, decide_true, cond_true]
      rw [bnd_nat hi, hy, Option.bind_some, wr1 (by omega)]
      obtain ⟨y1, y2⟩ := y
      obtain ⟨e1, e2⟩ := e
      by_cases h1 : y1 = e1 <;> by_cases h2 : y2 = e2 <;> simp [h1, h2]) (fun self => by simp)]
  by_cases h : e ∈ l
  · rw [if_neg, decide_eq_true h]
    · rfl
    · intro hh
      obtain ⟨i, hi⟩ := List.getElem?_of_mem h
      have := hh i (List.getElem?_eq_some_iff.1 hi).1
      rw [decide_eq_true_eq] at this
      exact this hi
  · rw [if_pos, decide_eq_false h]
    · rfl
    · intro i hi
      rw [decide_eq_true_eq]
      exact fun hh => h (List.mem_of_getElem? hh)
theorem h_ihasEdge (l : List Ed) (e : Ed) (hl : l.length ≤ maxLen) : g_ihasEdge (l, e) = some (decide (e ∈ l), ()) := by
  rw [← h_sl05Has l e hl]
  show f_ihasEdge BIG _ = f_sl05Has BIG _
  rw [e_ihasEdge, e_sl05Has]
  all_goals rfl
theorem h_sl05Put (l : List Ed) (e : Ed) (hl : l.length ≤ 1048576) : g_sl05Put (l, e) = some (ins l e, ()) := by
  have hm : maxLen = 9223372036854775807 := by decide
  show f_sl05Put BIG _ = _
  rw [e_sl05Put, foldLoop l (by omega) (fun i (c : List Ed) => c.length ≤ i) (fun c y => if lsB y e then c ++ [y] else c) id (by simp) (fun i c y _ (h : c.length ≤ i) => by show List.length (if _ then _ else _) ≤ _; split <;> (try simp) <;> omega)]
  · rw [foldl_filter]
    simp only [id, List.nil_append, Option.bind_some]
    have h1 := List.length_filter_le (fun y => lsB y e) l
    rw [decide_eq_true (by simp; omega), cond_true, foldLoop l (by omega) (fun i (c : List Ed) => c.length ≤ l.length + 1 + i) (fun c y => if lsB e y then c ++ [y] else c) id (by simp; omega) (fun i c y _ (h : c.length ≤ _) => by show List.length (if _ then _ else _) ≤ _; split <;> (try simp) <;> omega)]
    · rw [foldl_filter]; rfl
    · intro self c i y hy (hc : c.length ≤ _)
      have hi := (List.getElem?_eq_some_iff.1 hy).1
      simp only [show ((i : Int) < (l.length : Int)) from by omega, decide_true, cond_true]
      simp only [bnd_nat hi, hy, Option.bind_some, h_sl05Less, wr1 (show i < maxLen from by omega)]
      cases lsB e y with
      | false => simp
      | true => simp [show c.length + 1 ≤ 4294967296 from by omega]
    · intro self c hc
      simp
  · intro self c i y hy (hc : c.length ≤ i)
    have hi := (List.getElem?_eq_some_iff.1 hy).1
    simp only [show ((i : Int) < (l.length : Int)) from by omega, decide_true, cond_true]
    simp only [bnd_nat hi, hy, Option.bind_some, h_sl05Less, wr1 (show i < maxLen from by omega)]
    cases lsB y e with
    | false => simp
    | true => simp [show c.length + 1 ≤ 4294967296 from by omega]
  · intro self c hc
    simp
theorem fdI_le : ∀ (l : List Ed) (e : Ed), fdI l e ≤ l.length
  | [], _ => by simp [fdI]
  | y :: l, e => by
    have := fdI_le l e
    simp only [fdI, List.length_cons]
    split <;> omega
theorem fdI_at : ∀ {l : List Ed} {e y : Ed} {i : Nat}, i ≤ fdI l e → l[i]? = some y → lsB y e = decide (i < fdI l e)
  | [], _, _, _, _, hy => by simp at hy
  | z :: l, e, y, i, hi, hy => by
    cases hz : lsB z e with
    | false =>
      simp only [fdI, hz] at hi ⊢
      have : i = 0 := by simpa using hi
      subst this
      simp only [List.getElem?_cons_zero, Option.some.injEq] at hy
      subst hy
      simp [hz]
    | true =>
      simp only [fdI, hz, if_true] at hi ⊢
      cases i with
      | zero =>
        simp only [List.getElem?_cons_zero, Option.some.injEq] at hy
        subst hy
        simp [hz]
      | succ i =>
        simp only [List.getElem?_cons_succ] at hy
        rw [fdI_at (by omega) hy]
        simp
theorem h_iwithEdge (l : List Ed) (e : Ed) (hl : l.length ≤ 1048576) : g_iwithEdge (l, e) = some (l.take (fdI l e) ++ [e] ++ l.drop (fdI l e), ()) := by
  have hm : maxLen = 9223372036854775807 := by decide
  have hle := fdI_le l e
  show f_iwithEdge BIG _ = _
  rw [e_iwithEdge, loop_eq (fun (x : Int) => ∃ i : Nat, x = i ∧ i ≤ fdI l e) (fun (x : Int) => l.length - x.toNat) (fun _ => ((fdI l e : Nat) : Int)) (fun self x ⟨i, h1, h2⟩ hs => by
    subst h1
    by_cases hi : i < l.length
    · have hy := List.getElem?_eq_getElem hi
      have hat := fdI_at h2 hy
      simp only [show ((i : Int) < (l.length : Int)) from by omega, decide_true, cond_true]
      simp only [bnd_nat hi, hy, Option.bind_some, h_iahead, wr1 (show i < maxLen from by omega), hat]
      by_cases hlt : i < fdI l e
      · rw [decide_eq_true hlt, cond_true]
        exact hs _ ⟨i + 1, rfl, hlt⟩ (by simp; omega)
      · rw [decide_eq_false hlt, cond_false]
        have : i = fdI l e := by omega
        rw [← this]
    · have : i = l.length := by omega
      have h3 : fdI l e = i := by omega
      rw [h3, this]
      simp) (n := BIG) (x := 0) (by simp [BIG]; omega) ⟨0, rfl, by omega⟩]
  simp only [Option.bind_some, Int.toNat_natCast, Nat.sub_zero, List.drop_zero]
  rw [decide_eq_true (by omega), cond_true, decide_eq_true (by omega), cond_true, decide_eq_true (by simp; omega), cond_true, decide_eq_true (by simp; omega), cond_true, cond_true, decide_eq_true (by omega), cond_true, decide_eq_true (by simp; omega), cond_true]
  congr 3
  rw [List.take_of_length_le]
  simp
/-- A walk that may fail. -/
def fM {S α : Type} (st : S → α → Option S) : S → List α → Option S
  | s, [] => some s
  | s, y :: l => (st s y).bind fun s' => fM st s' l
theorem exitLoop {α S B : Type} (a : List α) (hl : a.length < 18446744073709551616) {F : (S × Int → Option (S ⊕ B)) → S × Int → Option (S ⊕ B)} (I : Nat → S → Prop) (st : S → α → Option S) (b : B) {s0 : S} (h0 : I 0 s0)
    (hI : ∀ i s y s', a[i]? = some y → I i s → st s y = some s' → I (i + 1) s')
    (hF : ∀ self s (i : Nat) y, a[i]? = some y → I i s → F self (s, (i : Int)) = match st s y with
      | some s' => self (s', ((i + 1 : Nat) : Int))
      | none => some (.inr b))
    (hE : ∀ self s, I a.length s → F self (s, (a.length : Int)) = some (.inl s)) : loopT BIG F (s0, 0) = some (match fM st s0 a with
      | some s => .inl s
      | none => .inr b) := by
  have := loop_eq (F := F) (fun x => ∃ i : Nat, x.2 = i ∧ i ≤ a.length ∧ I i x.1) (fun x => a.length - x.2.toNat) (fun x => match fM st x.1 (a.drop x.2.toNat) with
      | some s => .inl s
      | none => .inr b) (fun self x ⟨i, h1, h2, h3⟩ hs => ?_) (n := BIG) (x := (s0, 0)) (by simp; exact hl) ⟨0, rfl, by simp, h0⟩
  · simpa using this
  · obtain ⟨s, j⟩ := x
    simp only at h1 h2 h3
    subst h1
    by_cases hi : i < a.length
    · have hy := List.getElem?_eq_getElem hi
      rw [hF self s i a[i] hy h3]
      simp only [Int.toNat_natCast]
      rw [List.drop_eq_getElem_cons hi]
      simp only [fM]
      cases hst : st s a[i] with
      | none => rfl
      | some s' =>
        simp only [Option.bind_some]
        rw [hs _ ⟨i + 1, rfl, hi, hI _ _ _ _ hy h3 hst⟩ (by simp; omega)]
        simp
    · have : i = a.length := by omega
      subst this
      rw [hE self s h3]
      simp [fM]
theorem fM_flat {S α : Type} (st : S → α → Option S) : ∀ (l : List (List α)) (s : S), fM st s l.flatten = fM (fun s y => fM st s y) s l
  | [], s => rfl
  | y :: l, s => by
    have app : ∀ (a b : List α) (s : S), fM st s (a ++ b) = (fM st s a).bind fun s' => fM st s' b := by
      intro a b
      induction a with
      | nil => intro s; rfl
      | cons x a ih =>
        intro s
        simp only [List.cons_append, fM, ih, Option.bind_assoc]
    simp only [List.flatten_cons, app, fM]
    congr 1
    funext s'
    exact fM_flat st l s'
def stE (out : List Ed) (e : Ed) : Option (List Ed) := if e ∈ out then none else some (ins out e)
theorem stE_some {out s' : List Ed} {e : Ed} (h : stE out e = some s') : e ∉ out ∧ s' = ins out e := by
  unfold stE at h
  split at h
  · cases h
  · cases h; exact ⟨by assumption, rfl⟩
theorem fM_some : ∀ {A s s' : List Ed}, fM stE s A = some s' → A.Nodup ∧ (∀ x, x ∈ A → x ∉ s) ∧ (∀ x, x ∈ s' ↔ x ∈ s ∨ x ∈ A) ∧ (Srt s → Srt s') ∧ s'.length ≤ s.length + A.length
  | [], s, s', h => by
    simp only [fM, Option.some.injEq] at h
    subst h
    exact ⟨List.nodup_nil, by simp, by simp, id, by simp⟩
  | e :: A, s, s', h => by
    simp only [fM, Option.bind_eq_some_iff] at h
    obtain ⟨s1, h1, h2⟩ := h
    obtain ⟨hne, rfl⟩ := stE_some h1
    obtain ⟨k1, k2, k3, k4, k5⟩ := fM_some h2
    refine ⟨List.nodup_cons.2 ⟨fun hh => k2 e hh (ins_mem.2 (.inl rfl)), k1⟩, fun x hx => ?_, fun x => ?_, fun hs => k4 (ins_srt hs), ?_⟩
    · rcases List.mem_cons.1 hx with rfl | hx
      · exact hne
      · exact fun hh => k2 x hx (ins_mem.2 (.inr hh))
    · rw [k3, ins_mem, List.mem_cons]
      constructor
      · rintro ((h | h) | h)
        · exact .inr (.inl h)
        · exact .inl h
        · exact .inr (.inr h)
      · rintro (h | h | h)
        · exact .inl (.inr h)
        · exact .inl (.inl h)
        · exact .inr h
    · have := ins_len s e
      simp only [List.length_cons]
      omega
theorem fM_ok : ∀ {A s : List Ed}, A.Nodup → (∀ x, x ∈ A → x ∉ s) → ∃ s', fM stE s A = some s'
  | [], s, _, _ => ⟨s, rfl⟩
  | e :: A, s, h, h' => by
    have hn := List.nodup_cons.1 h
    have h1 : stE s e = some (ins s e) := by unfold stE; rw [if_neg (h' e (by simp))]
    obtain ⟨s', hs⟩ := fM_ok (A := A) (s := ins s e) hn.2 fun x hx hh => by
      rcases ins_mem.1 hh with rfl | hh
      · exact hn.1 hx
      · exact h' x (by simp [hx]) hh
    exact ⟨s', by simp only [fM, h1, Option.bind_some]; exact hs⟩
theorem fM_perm {A B : List Ed} (h : A.Perm B) : fM stE [] A = fM stE [] B := by
  cases hA : fM stE [] A with
  | some s =>
    obtain ⟨k1, k2, k3, k4, _⟩ := fM_some hA
    obtain ⟨s', hs⟩ := fM_ok (A := B) (s := []) (h.nodup_iff.1 k1) (by simp)
    obtain ⟨_, _, m3, m4, _⟩ := fM_some hs
    rw [hs, srt_eq (k4 List.Pairwise.nil) (m4 List.Pairwise.nil) fun x => by rw [k3, m3, h.mem_iff]]
  | none =>
    cases hB : fM stE [] B with
    | none => rfl
    | some s =>
      obtain ⟨k1, _⟩ := fM_some hB
      obtain ⟨s', hs⟩ := fM_ok (A := A) (s := []) (h.nodup_iff.2 k1) (by simp)
      rw [hs] at hA; cases hA
def resW (o : Option (List Ed)) : List Ed × Bool := match o with
  | some s => (s, true)
  | none => ([], false)
abbrev LL := List (List (Int × Int))
theorem flat_take {a : LL} {i : Nat} {y : List Ed} (hy : a[i]? = some y) : (a.take (i + 1)).flatten.length = (a.take i).flatten.length + y.length := by
  have hi := (List.getElem?_eq_some_iff.1 hy).1
  have hv := (List.getElem?_eq_some_iff.1 hy).2
  rw [List.take_succ_eq_append_getElem hi, List.flatten_append, List.length_append, hv]
  simp
theorem flat_take_le (a : LL) (i : Nat) : (a.take i).flatten.length ≤ a.flatten.length := by
  have := congrArg List.length (congrArg List.flatten (List.take_append_drop i a))
  rw [List.flatten_append, List.length_append] at this
  omega
theorem h_sWholeEdges (a : LL) (c : List Ed) (hl : a.length ≤ 1048576) (ht : c.length + a.flatten.length ≤ 1048576) : g_sWholeEdges (a, c) = some (resW (fM stE [] (c ++ a.flatten)), ()) := by
  have hm : maxLen = 9223372036854775807 := by decide
  show f_sWholeEdges BIG _ = _
  have hc0 := Nat.le_trans (Nat.le_add_right c.length a.flatten.length) ht
  rw [e_sWholeEdges]
  rw [decide_eq_true (by first | omega | (simp; omega)), cond_true, foldLoop a (by omega) (fun i (s : List Ed) => s.length = c.length + (a.take i).flatten.length) (fun s y => s ++ y) id (by simp) (fun i s y hy (h : s.length = _) => by rw [List.length_append, h, flat_take hy]; omega)]
  · have hf : ∀ (l : LL) (s : List Ed), l.foldl (fun s y => s ++ y) s = s ++ l.flatten := by
      intro l
      induction l with
      | nil => intro s; simp
      | cons y l ih => intro s; rw [List.foldl_cons, ih, List.flatten_cons, List.append_assoc]
    simp only [hf, id, List.nil_append, Option.bind_some]
    generalize hx : c ++ a.flatten = x
    have hxl : x.length ≤ 1048576 := by rw [← hx, List.length_append]; exact ht
    rw [exitLoop x (by omega) (fun i (s : List Ed) => s.length ≤ i) stE (([], false) : List Ed × Bool) (by simp) (fun i s y s' hy (h : s.length ≤ i) hs => by
      obtain ⟨_, rfl⟩ := stE_some hs
      have := ins_len s y
      show _ ≤ _
      omega)]
    · cases fM stE [] x <;> rfl
    · intro self s i y hy (hs : s.length ≤ i)
      have hi := (List.getElem?_eq_some_iff.1 hy).1
      simp only [show ((i : Int) < (x.length : Int)) from by omega, decide_true, cond_true]
      simp only [bnd_nat hi, hy, Option.bind_some, h_sl05Has s y (by omega), h_sl05Put s y (by omega), wr1 (show i < maxLen from by omega)]
      unfold stE
      by_cases h : y ∈ s <;> simp [h]
    · intro self s hs
      simp
  · intro self s i y hy (hs : s.length = _)
    have hi := (List.getElem?_eq_some_iff.1 hy).1
    have h1 := flat_take hy
    have h2 := flat_take_le a (i + 1)
    simp only [show ((i : Int) < (a.length : Int)) from by omega, decide_true, cond_true]
    rw [bnd_nat hi, hy, Option.bind_some, decide_eq_true (by omega), cond_true, wr1 (by omega)]
  · intro self s hs
    simp
theorem h_iWholeEdges (a : LL) (c : List Ed) (hl : a.length ≤ 1048576) (ht : c.length + a.flatten.length ≤ 1048576) : g_iWholeEdges (a, c) = some (resW (fM stE [] (c ++ a.flatten)), ()) := by
  have hm : maxLen = 9223372036854775807 := by decide
  have hp : fM stE [] (c ++ a.flatten) = fM stE [] (a ++ [c]).flatten := by
    refine fM_perm ?_
    rw [List.flatten_append]
    simp only [List.flatten_cons, List.flatten_nil, List.append_nil]
    exact List.perm_append_comm
  rw [hp]
  have htt : (a ++ [c]).flatten.length ≤ 1048576 := by rw [List.flatten_append, List.length_append]; simp only [List.flatten_cons, List.flatten_nil, List.append_nil]; omega
  have hll : (a ++ [c]).length ≤ 1048577 := by simp; omega
  show f_iWholeEdges BIG _ = _
  rw [e_iWholeEdges, decide_eq_true (by omega), cond_true, decide_eq_true (by simp; omega), cond_true]
  generalize a ++ [c] = b at *
  rw [exitLoop b (by omega) (fun i (s : List Ed) => s.length ≤ (b.take i).flatten.length ∧ Srt s) (fun s y => fM stE s y) (([], false) : List Ed × Bool) ⟨by simp, List.Pairwise.nil⟩ (fun i s y s' hy h hs => by
      obtain ⟨_, _, _, h4, h5⟩ := fM_some hs
      exact ⟨by rw [flat_take hy]; have := h.1; omega, h4 h.2⟩)]
  · rw [← fM_flat]
    cases fM stE [] b.flatten <;> rfl
  · intro self s i y hy ⟨hs, hsrt⟩
    have hi := (List.getElem?_eq_some_iff.1 hy).1
    have h1 := flat_take hy
    have h2 := flat_take_le b (i + 1)
    simp only [show ((i : Int) < (b.length : Int)) from by omega, decide_true, cond_true]
    rw [bnd_nat hi, hy, Option.bind_some, wr1 (by omega), exitLoop y (by omega) (fun k (u : List Ed) => u.length ≤ s.length + k ∧ Srt u) stE (([], false) : List Ed × Bool) ⟨by simp, hsrt⟩ (fun k u z u' hz h hu => by
      obtain ⟨_, rfl⟩ := stE_some hu
      have := ins_len u z
      exact ⟨by have := h.1; omega, ins_srt h.2⟩)]
    · cases fM stE s y <;> rfl
    · intro self2 u k z hz ⟨hu, husrt⟩
      have hk := (List.getElem?_eq_some_iff.1 hz).1
      simp only [show ((k : Int) < (y.length : Int)) from by omega, decide_true, cond_true]
      rw [bnd_nat hk, hz, Option.bind_some, wr1 (by omega)]
      simp only [h_ihasEdge u z (by omega), h_iwithEdge u z (by omega), Option.bind_some]
      unfold stE
      by_cases h : z ∈ u
      · simp [h]
      · rw [decide_eq_false h, cond_false, if_neg h, fdI_ins husrt h]
    · intro self2 u hu
      simp
  · intro self s hs
    simp
def GrOk (n : Int) (es : List Ed) : Prop := 2 ≤ n ∧ n ≤ 12 ∧ Srt es ∧ (∀ e, e ∈ es → edB n e = true)
theorem GrOk.ins {n : Int} {es : List Ed} {e : Ed} (h : GrOk n es) (he : edB n e = true) : GrOk n (ins es e) := ⟨h.1, h.2.1, ins_srt h.2.2.1, fun x hx => by
  rcases ins_mem.1 hx with rfl | hx
  · exact he
  · exact h.2.2.2 x hx⟩
theorem to_Ask (x0 : Int) (x1 : Int) (x2 : Int) (x3 : Int) : g_ltoAsk (x0, x1, x2, x3) = some ((x0, x1, x2, x3), ()) := e_ltoAsk BIG _
theorem eq_Ask (x0 : Int) (x1 : Int) (x2 : Int) (x3 : Int) (y0 : Int) (y1 : Int) (y2 : Int) (y3 : Int) : g_leqAsk ((x0, x1, x2, x3), (y0, y1, y2, y3)) = some (decide ((x0, x1, x2, x3) = (y0, y1, y2, y3)), ()) := by
  show f_leqAsk BIG _ = _
  rw [e_leqAsk]
  dsimp only
  by_cases c0 : x0 = y0
  case neg =>
    simp [c0]
  rw [decide_eq_true c0, Bool.not_true, cond_false]
  by_cases c1 : x1 = y1
  case neg =>
    simp [c1]
  rw [decide_eq_true c1, Bool.not_true, cond_false]
  by_cases c2 : x2 = y2
  case neg =>
    simp [c2]
  rw [decide_eq_true c2, Bool.not_true, cond_false]
  by_cases c3 : x3 = y3
  case neg =>
    simp [c3]
  rw [decide_eq_true c3, Bool.not_true, cond_false]
  rw [decide_eq_true (by simp_all)]
theorem to_Edge (x0 : Int) (x1 : Int) : g_ltoEdge (x0, x1) = some ((x0, x1), ()) := e_ltoEdge BIG _
theorem eq_Edge (x0 : Int) (x1 : Int) (y0 : Int) (y1 : Int) : g_leqEdge ((x0, x1), (y0, y1)) = some (decide ((x0, x1) = (y0, y1)), ()) := by
  show f_leqEdge BIG _ = _
  rw [e_leqEdge]
  dsimp only
  by_cases c0 : x0 = y0
  case neg =>
    simp [c0]
  rw [decide_eq_true c0, Bool.not_true, cond_false]
  by_cases c1 : x1 = y1
  case neg =>
    simp [c1]
  rw [decide_eq_true c1, Bool.not_true, cond_false]
  rw [decide_eq_true (by simp_all)]
theorem to_Ledge (x0 : Int) (x1 : Int) (x2 : Int) (x3 : Bool) : g_ltoLedge (x0, x1, x2, x3) = some ((x0, x1, x2, x3), ()) := e_ltoLedge BIG _
theorem eq_Ledge (x0 : Int) (x1 : Int) (x2 : Int) (x3 : Bool) (y0 : Int) (y1 : Int) (y2 : Int) (y3 : Bool) : g_leqLedge ((x0, x1, x2, x3), (y0, y1, y2, y3)) = some (decide ((x0, x1, x2, x3) = (y0, y1, y2, y3)), ()) := by
  show f_leqLedge BIG _ = _
  rw [e_leqLedge]
  dsimp only
  by_cases c0 : x0 = y0
  case neg =>
    simp [c0]
  rw [decide_eq_true c0, Bool.not_true, cond_false]
  by_cases c1 : x1 = y1
  case neg =>
    simp [c1]
  rw [decide_eq_true c1, Bool.not_true, cond_false]
  by_cases c2 : x2 = y2
  case neg =>
    simp [c2]
  rw [decide_eq_true c2, Bool.not_true, cond_false]
  by_cases c3 : x3 = y3
  case neg =>
    rw [show (x3 == y3) = false from by simp [c3]]; simp [c3]
  rw [show (x3 == y3) = true from by simp [c3], Bool.not_true, cond_false]
  rw [decide_eq_true (by simp_all)]
theorem to_Said (x0 x1 x2 x3 x4 x5 : Int) : g_ltoSaid (x0, x1, x2, x3, x4, x5) = some ((x0, x1, x2, x3, x4, x5), ()) := by
  show f_ltoSaid BIG _ = _
  rw [e_ltoSaid]
  dsimp only
  rw [to_Ask, Option.bind_some]
theorem eq_Said (x0 x1 x2 x3 x4 x5 y0 y1 y2 y3 y4 y5 : Int) : g_leqSaid ((x0, x1, x2, x3, x4, x5), (y0, y1, y2, y3, y4, y5)) = some (decide ((x0, x1, x2, x3, x4, x5) = (y0, y1, y2, y3, y4, y5)), ()) := by
  show f_leqSaid BIG _ = _
  rw [e_leqSaid]
  dsimp only
  by_cases c0 : x0 = y0
  case neg =>
    simp [c0]
  rw [decide_eq_true c0, Bool.not_true, cond_false, eq_Ask, Option.bind_some]
  by_cases c1 : (x1, x2, x3, x4) = (y1, y2, y3, y4)
  case neg =>
    rw [decide_eq_false c1, Bool.not_false, cond_true, decide_eq_false]
    intro h; apply c1; simp_all
  rw [decide_eq_true c1, Bool.not_true, cond_false]
  by_cases c2 : x5 = y5
  case neg =>
    simp [c2]
  rw [decide_eq_true c2, Bool.not_true, cond_false]
  rw [decide_eq_true (by simp_all)]
theorem sz_IntS (a : List (Int)) (l : Int) (h0 : 0 ≤ l) (h1 : l ≤ 1048576) (ha : a.length ≤ maxLen) : g_lszIntS (a, l) = some (if ((a.length : Nat) : Int) ≤ l then l - (a.length : Nat) else -1, ()) := by
  have hm : maxLen = 9223372036854775807 := by decide
  show f_lszIntS BIG _ = _
  rw [e_lszIntS, wr (by omega) (by omega)]
  by_cases h : ((a.length : Nat) : Int) ≤ l
  · rw [if_pos h, decide_eq_false (by omega), cond_false]
  · rw [if_neg h, decide_eq_true (by omega), cond_true]
theorem to_IntS (a : List (Int)) (h : a.length ≤ 1048576) : g_ltoIntS a = some (a, ()) := by
  have hm : maxLen = 9223372036854775807 := by decide
  show f_ltoIntS BIG _ = _
  rw [e_ltoIntS, decide_eq_true (by omega), cond_true, decide_eq_true (by simp; omega), cond_true]
  simp only [Int.toNat_natCast]
  rw [cpLoop a (by omega)]
  · rfl
  · intro self out i y hl hy
    have hi := (List.getElem?_eq_some_iff.1 hy).1
    simp only [show ((i : Int) < (a.length : Int)) from by omega, decide_true, cond_true]
    rw [bnd_nat hi, hy, Option.bind_some]
    rw [bnd_nat (by omega), List.getElem?_eq_getElem (by omega), Option.bind_some, wr1 (by omega)]
  · intro self out hl
    simp
theorem eq_IntS (a b : List (Int)) (h : a.length ≤ 4294967296) : g_leqIntS (a, b) = some (decide (a = b), ()) := by
  have hm : maxLen = 9223372036854775807 := by decide
  show f_leqIntS BIG _ = _
  rw [e_leqIntS]
  by_cases hl : a.length = b.length
  · rw [decide_eq_true (by omega), Bool.not_true, cond_false, eqLoop a b (by omega) hl false]
    · by_cases h : a = b <;> simp [h]
    · intro self i x y hx hy
      have hi := (List.getElem?_eq_some_iff.1 hx).1
      simp only [show ((i : Int) < (a.length : Int)) from by omega, decide_true, cond_true]
      rw [bnd_nat hi, hx, Option.bind_some, bnd_nat (by omega), hy, Option.bind_some]
      rw [wr1 (by omega)]
      by_cases h : x = y <;> simp [h]
    · intro self
      simp
  · rw [decide_eq_false (by omega), Bool.not_false, cond_true, decide_eq_false (fun h => hl (by rw [h]))]
theorem sz_EdgeS (a : List (Int × Int)) (l : Int) (h0 : 0 ≤ l) (h1 : l ≤ 1048576) (ha : a.length ≤ maxLen) : g_lszEdgeS (a, l) = some (if ((a.length : Nat) : Int) ≤ l then l - (a.length : Nat) else -1, ()) := by
  have hm : maxLen = 9223372036854775807 := by decide
  show f_lszEdgeS BIG _ = _
  rw [e_lszEdgeS, wr (by omega) (by omega)]
  by_cases h : ((a.length : Nat) : Int) ≤ l
  · rw [if_pos h, decide_eq_false (by omega), cond_false]
  · rw [if_neg h, decide_eq_true (by omega), cond_true]
theorem to_EdgeS (a : List (Int × Int)) (h : a.length ≤ 1048576) : g_ltoEdgeS a = some (a, ()) := by
  have hm : maxLen = 9223372036854775807 := by decide
  show f_ltoEdgeS BIG _ = _
  rw [e_ltoEdgeS, decide_eq_true (by omega), cond_true, decide_eq_true (by simp; omega), cond_true]
  simp only [Int.toNat_natCast]
  rw [cpLoop a (by omega)]
  · rfl
  · intro self out i y hl hy
    have hi := (List.getElem?_eq_some_iff.1 hy).1
    simp only [show ((i : Int) < (a.length : Int)) from by omega, decide_true, cond_true]
    rw [bnd_nat hi, hy, Option.bind_some]
    rw [to_Edge _ _, Option.bind_some]
    rw [bnd_nat (by omega), List.getElem?_eq_getElem (by omega), Option.bind_some, wr1 (by omega)]
  · intro self out hl
    simp
theorem eq_EdgeS (a b : List (Int × Int)) (h : a.length ≤ 4294967296) : g_leqEdgeS (a, b) = some (decide (a = b), ()) := by
  have hm : maxLen = 9223372036854775807 := by decide
  show f_leqEdgeS BIG _ = _
  rw [e_leqEdgeS]
  by_cases hl : a.length = b.length
  · rw [decide_eq_true (by omega), Bool.not_true, cond_false, eqLoop a b (by omega) hl false]
    · by_cases h : a = b <;> simp [h]
    · intro self i x y hx hy
      have hi := (List.getElem?_eq_some_iff.1 hx).1
      simp only [show ((i : Int) < (a.length : Int)) from by omega, decide_true, cond_true]
      rw [bnd_nat hi, hx, Option.bind_some, bnd_nat (by omega), hy, Option.bind_some]
      rw [wr1 (by omega)]
      rw [eq_Edge _ _ _ _, Option.bind_some]
      by_cases h : x = y <;> simp [h]
    · intro self
      simp
  · rw [decide_eq_false (by omega), Bool.not_false, cond_true, decide_eq_false (fun h => hl (by rw [h]))]
theorem sz_LedgeS (a : List (Int × Int × Int × Bool)) (l : Int) (h0 : 0 ≤ l) (h1 : l ≤ 1048576) (ha : a.length ≤ maxLen) : g_lszLedgeS (a, l) = some (if ((a.length : Nat) : Int) ≤ l then l - (a.length : Nat) else -1, ()) := by
  have hm : maxLen = 9223372036854775807 := by decide
  show f_lszLedgeS BIG _ = _
  rw [e_lszLedgeS, wr (by omega) (by omega)]
  by_cases h : ((a.length : Nat) : Int) ≤ l
  · rw [if_pos h, decide_eq_false (by omega), cond_false]
  · rw [if_neg h, decide_eq_true (by omega), cond_true]
theorem to_LedgeS (a : List (Int × Int × Int × Bool)) (h : a.length ≤ 1048576) : g_ltoLedgeS a = some (a, ()) := by
  have hm : maxLen = 9223372036854775807 := by decide
  show f_ltoLedgeS BIG _ = _
  rw [e_ltoLedgeS, decide_eq_true (by omega), cond_true, decide_eq_true (by simp; omega), cond_true]
  simp only [Int.toNat_natCast]
  rw [cpLoop a (by omega)]
  · rfl
  · intro self out i y hl hy
    have hi := (List.getElem?_eq_some_iff.1 hy).1
    simp only [show ((i : Int) < (a.length : Int)) from by omega, decide_true, cond_true]
    rw [bnd_nat hi, hy, Option.bind_some]
    rw [to_Ledge _ _ _ _, Option.bind_some]
    rw [bnd_nat (by omega), List.getElem?_eq_getElem (by omega), Option.bind_some, wr1 (by omega)]
  · intro self out hl
    simp
theorem eq_LedgeS (a b : List (Int × Int × Int × Bool)) (h : a.length ≤ 4294967296) : g_leqLedgeS (a, b) = some (decide (a = b), ()) := by
  have hm : maxLen = 9223372036854775807 := by decide
  show f_leqLedgeS BIG _ = _
  rw [e_leqLedgeS]
  by_cases hl : a.length = b.length
  · rw [decide_eq_true (by omega), Bool.not_true, cond_false, eqLoop a b (by omega) hl false]
    · by_cases h : a = b <;> simp [h]
    · intro self i x y hx hy
      have hi := (List.getElem?_eq_some_iff.1 hx).1
      simp only [show ((i : Int) < (a.length : Int)) from by omega, decide_true, cond_true]
      rw [bnd_nat hi, hx, Option.bind_some, bnd_nat (by omega), hy, Option.bind_some]
      rw [wr1 (by omega)]
      rw [eq_Ledge _ _ _ _ _ _ _ _, Option.bind_some]
      by_cases h : x = y <;> simp [h]
    · intro self
      simp
  · rw [decide_eq_false (by omega), Bool.not_false, cond_true, decide_eq_false (fun h => hl (by rw [h]))]
theorem sz_SaidS (a : List (Int × Int × Int × Int × Int × Int)) (l : Int) (h0 : 0 ≤ l) (h1 : l ≤ 1048576) (ha : a.length ≤ maxLen) : g_lszSaidS (a, l) = some (if ((a.length : Nat) : Int) ≤ l then l - (a.length : Nat) else -1, ()) := by
  have hm : maxLen = 9223372036854775807 := by decide
  show f_lszSaidS BIG _ = _
  rw [e_lszSaidS, wr (by omega) (by omega)]
  by_cases h : ((a.length : Nat) : Int) ≤ l
  · rw [if_pos h, decide_eq_false (by omega), cond_false]
  · rw [if_neg h, decide_eq_true (by omega), cond_true]
theorem to_SaidS (a : List (Int × Int × Int × Int × Int × Int)) (h : a.length ≤ 1048576) : g_ltoSaidS a = some (a, ()) := by
  have hm : maxLen = 9223372036854775807 := by decide
  show f_ltoSaidS BIG _ = _
  rw [e_ltoSaidS, decide_eq_true (by omega), cond_true, decide_eq_true (by simp; omega), cond_true]
  simp only [Int.toNat_natCast]
  rw [cpLoop a (by omega)]
  · rfl
  · intro self out i y hl hy
    have hi := (List.getElem?_eq_some_iff.1 hy).1
    simp only [show ((i : Int) < (a.length : Int)) from by omega, decide_true, cond_true]
    rw [bnd_nat hi, hy, Option.bind_some]
    rw [to_Said _ _ _ _ _ _, Option.bind_some]
    rw [bnd_nat (by omega), List.getElem?_eq_getElem (by omega), Option.bind_some, wr1 (by omega)]
  · intro self out hl
    simp
theorem eq_SaidS (a b : List (Int × Int × Int × Int × Int × Int)) (h : a.length ≤ 4294967296) : g_leqSaidS (a, b) = some (decide (a = b), ()) := by
  have hm : maxLen = 9223372036854775807 := by decide
  show f_leqSaidS BIG _ = _
  rw [e_leqSaidS]
  by_cases hl : a.length = b.length
  · rw [decide_eq_true (by omega), Bool.not_true, cond_false, eqLoop a b (by omega) hl false]
    · by_cases h : a = b <;> simp [h]
    · intro self i x y hx hy
      have hi := (List.getElem?_eq_some_iff.1 hx).1
      simp only [show ((i : Int) < (a.length : Int)) from by omega, decide_true, cond_true]
      rw [bnd_nat hi, hx, Option.bind_some, bnd_nat (by omega), hy, Option.bind_some]
      rw [wr1 (by omega)]
      rw [eq_Said _ _ _ _ _ _ _ _ _ _ _ _, Option.bind_some]
      by_cases h : x = y <;> simp [h]
    · intro self
      simp
  · rw [decide_eq_false (by omega), Bool.not_false, cond_true, decide_eq_false (fun h => hl (by rw [h]))]
def z_IntSS (a : List (List (Int))) : Nat := a.length + (a.map fun y => y.length).sum
abbrev B_IntSS (a : List (List (Int))) : Prop := a.length ≤ maxLen ∧ ∀ y, y ∈ a → y.length ≤ maxLen
theorem z_IntSS_mem {a : List (List (Int))} {y : List (Int)} (h : y ∈ a) : y.length ≤ z_IntSS a := by
  have : ∀ a : List (List (Int)), y ∈ a → y.length ≤ (a.map fun y => y.length).sum := by
    intro a
    induction a with
    | nil => intro h; cases h
    | cons x a ih =>
      intro h
      rw [List.map_cons, List.sum_cons]
      rcases List.mem_cons.1 h with rfl | h
      · omega
      · have := ih h; omega
  have := this a h
  unfold z_IntSS; omega
theorem sz_IntSS (a : List (List (Int))) (l : Int) (h0 : 0 ≤ l) (h1 : l ≤ 1048576) (ha : B_IntSS a) : g_lszIntSS (a, l) = some (if ((z_IntSS a : Nat) : Int) ≤ l then l - (z_IntSS a : Nat) else -1, ()) := by
  have hm : maxLen = 9223372036854775807 := by decide
  have ha1 := ha.1
  show f_lszIntSS BIG _ = _
  rw [e_lszIntSS, wr (by omega) (by omega)]
  by_cases h : ((a.length : Nat) : Int) ≤ l
  case neg =>
    rw [decide_eq_true (by omega), cond_true, if_neg (by unfold z_IntSS; omega)]
  rw [decide_eq_false (by omega), cond_false, szLoop a (fun y => y.length) (-1) (l - (a.length : Nat)) (by omega) (by omega) (by omega)]
  · unfold z_IntSS
    by_cases c : (((a.map fun y => y.length).sum : Nat) : Int) ≤ l - (a.length : Nat)
    · rw [if_pos c, if_pos (by omega)]
      simp only [Option.bind_some]
      congr 2
      omega
    · rw [if_neg c, if_neg (by omega)]
      rfl
  · intro self i l y hy h0 h1
    have hi := (List.getElem?_eq_some_iff.1 hy).1
    simp only [show ((i : Int) < (a.length : Int)) from by omega, decide_true, cond_true]
    rw [bnd_nat hi, hy, Option.bind_some, sz_IntS y l h0 h1 (ha.2 y (List.mem_of_getElem? hy)), Option.bind_some]
    by_cases c : ((y.length : Nat) : Int) ≤ l
    · rw [if_pos c, if_pos c, decide_eq_false (by omega), cond_false, wr1 (by omega)]
    · rw [if_neg c, if_neg c, decide_eq_true (by omega), cond_true]
  · intro self l
    simp
theorem to_IntSS (a : List (List (Int))) (h : z_IntSS a ≤ 1048576) : g_ltoIntSS a = some (a, ()) := by
  have hm : maxLen = 9223372036854775807 := by decide
  have h1 : a.length ≤ 1048576 := by unfold z_IntSS at h; omega
  show f_ltoIntSS BIG _ = _
  rw [e_ltoIntSS, decide_eq_true (by omega), cond_true, decide_eq_true (by simp; omega), cond_true]
  simp only [Int.toNat_natCast]
  rw [cpLoop a (by omega)]
  · rfl
  · intro self out i y hl hy
    have hi := (List.getElem?_eq_some_iff.1 hy).1
    have hz := z_IntSS_mem (List.mem_of_getElem? hy)
    simp only [show ((i : Int) < (a.length : Int)) from by omega, decide_true, cond_true]
    rw [bnd_nat hi, hy, Option.bind_some, to_IntS y (by omega), Option.bind_some, bnd_nat (by omega), List.getElem?_eq_getElem (by omega), Option.bind_some, wr1 (by omega)]
  · intro self out hl
    simp
theorem eq_IntSS (a b : List (List (Int))) (h : z_IntSS a ≤ 4294967296) : g_leqIntSS (a, b) = some (decide (a = b), ()) := by
  have hm : maxLen = 9223372036854775807 := by decide
  have h1 : a.length ≤ 4294967296 := by unfold z_IntSS at h; omega
  show f_leqIntSS BIG _ = _
  rw [e_leqIntSS]
  by_cases hl : a.length = b.length
  · rw [decide_eq_true (by omega), Bool.not_true, cond_false, eqLoop a b (by omega) hl false]
    · by_cases h : a = b <;> simp [h]
    · intro self i x y hx hy
      have hi := (List.getElem?_eq_some_iff.1 hx).1
      have hz := z_IntSS_mem (List.mem_of_getElem? hx)
      simp only [show ((i : Int) < (a.length : Int)) from by omega, decide_true, cond_true]
      rw [bnd_nat hi, hx, Option.bind_some, bnd_nat (by omega), hy, Option.bind_some, eq_IntS x y (by omega), Option.bind_some, wr1 (by omega)]
      by_cases h : x = y <;> simp [h]
    · intro self
      simp
  · rw [decide_eq_false (by omega), Bool.not_false, cond_true, decide_eq_false (fun h => hl (by rw [h]))]
theorem sz_Web (x0 : Int) (x1 : List (Int × Int × Int × Bool)) (l : Int) (h0 : 0 ≤ l) (h1 : l ≤ 1048576) (q1 : x1.length ≤ maxLen) : g_lszWeb ((x0, x1), l) = some (if (((x1.length) : Nat) : Int) ≤ l then l - ((x1.length) : Nat) else -1, ()) := by
  show f_lszWeb BIG _ = _
  rw [e_lszWeb]
  dsimp only
  have s0 := sz_LedgeS x1 (l) (by omega) (by omega) q1
  by_cases c0 : (((x1.length) : Nat) : Int) ≤ l
  case neg =>
    rw [if_neg c0] at s0
    rw [s0, Option.bind_some, if_neg (by omega)]
    all_goals rfl
  rw [if_pos c0] at s0
  rw [s0, Option.bind_some]
  dsimp only
  rw [decide_eq_false (by omega), cond_false]
  rw [if_pos (by omega)]
  all_goals first | rfl | (congr 2; done) | (congr 2; omega)
theorem to_Web (x0 : Int) (x1 : List (Int × Int × Int × Bool)) (h : (x1.length) ≤ 1048576) : g_ltoWeb (x0, x1) = some ((x0, x1), ()) := by
  show f_ltoWeb BIG _ = _
  rw [e_ltoWeb]
  dsimp only
  rw [to_LedgeS x1 (by omega), Option.bind_some]
theorem eq_Web (x0 : Int) (x1 : List (Int × Int × Int × Bool)) (h : (x1.length) ≤ 4294967296) : g_leqWeb ((x0, x1), (x0, x1)) = some (true, ()) := by
  show f_leqWeb BIG _ = _
  rw [e_leqWeb]
  dsimp only
  rw [decide_eq_true rfl, Bool.not_true, cond_false]
  rw [eq_LedgeS x1 x1 (by omega), Option.bind_some]
  rw [decide_eq_true rfl, Bool.not_true, cond_false]
theorem sz_Answer (x0 : Int) (x1 : Bool) (x2 : List (Int × Int)) (x3 : List (Int)) (l : Int) (h0 : 0 ≤ l) (h1 : l ≤ 1048576) (q2 : x2.length ≤ maxLen) (q3 : x3.length ≤ maxLen) : g_lszAnswer ((x0, x1, x2, x3), l) = some (if (((x2.length + x3.length) : Nat) : Int) ≤ l then l - ((x2.length + x3.length) : Nat) else -1, ()) := by
  show f_lszAnswer BIG _ = _
  rw [e_lszAnswer]
  dsimp only
  have s0 := sz_EdgeS x2 (l) (by omega) (by omega) q2
  by_cases c0 : (((x2.length) : Nat) : Int) ≤ l
  case neg =>
    rw [if_neg c0] at s0
    rw [s0, Option.bind_some, if_neg (by omega)]
    all_goals rfl
  rw [if_pos c0] at s0
  rw [s0, Option.bind_some]
  dsimp only
  rw [decide_eq_false (by omega), cond_false]
  have s1 := sz_IntS x3 (l - ((x2.length) : Nat)) (by omega) (by omega) q3
  by_cases c1 : (((x3.length) : Nat) : Int) ≤ l - ((x2.length) : Nat)
  case neg =>
    rw [if_neg c1] at s1
    rw [s1, Option.bind_some, if_neg (by omega)]
    all_goals rfl
  rw [if_pos c1] at s1
  rw [s1, Option.bind_some]
  dsimp only
  rw [decide_eq_false (by omega), cond_false]
  rw [if_pos (by omega)]
  all_goals first | rfl | (congr 2; done) | (congr 2; omega)
theorem to_Answer (x0 : Int) (x1 : Bool) (x2 : List (Int × Int)) (x3 : List (Int)) (h : (x2.length + x3.length) ≤ 1048576) : g_ltoAnswer (x0, x1, x2, x3) = some ((x0, x1, x2, x3), ()) := by
  show f_ltoAnswer BIG _ = _
  rw [e_ltoAnswer]
  dsimp only
  rw [to_EdgeS x2 (by omega), Option.bind_some]
  rw [to_IntS x3 (by omega), Option.bind_some]
theorem eq_Answer (x0 : Int) (x1 : Bool) (x2 : List (Int × Int)) (x3 : List (Int)) (h : (x2.length + x3.length) ≤ 4294967296) : g_leqAnswer ((x0, x1, x2, x3), (x0, x1, x2, x3)) = some (true, ()) := by
  show f_leqAnswer BIG _ = _
  rw [e_leqAnswer]
  dsimp only
  rw [decide_eq_true rfl, Bool.not_true, cond_false]
  rw [beq_self_eq_true, Bool.not_true, cond_false]
  rw [eq_EdgeS x2 x2 (by omega), Option.bind_some]
  rw [decide_eq_true rfl, Bool.not_true, cond_false]
  rw [eq_IntS x3 x3 (by omega), Option.bind_some]
  rw [decide_eq_true rfl, Bool.not_true, cond_false]
theorem sz_Order (x0 : Int) (x1 : Int) (x2 : List (Int × Int)) (x3 : Int) (l : Int) (h0 : 0 ≤ l) (h1 : l ≤ 1048576) (q2 : x2.length ≤ maxLen) : g_lszOrder ((x0, x1, x2, x3), l) = some (if (((x2.length) : Nat) : Int) ≤ l then l - ((x2.length) : Nat) else -1, ()) := by
  show f_lszOrder BIG _ = _
  rw [e_lszOrder]
  dsimp only
  have s0 := sz_EdgeS x2 (l) (by omega) (by omega) q2
  by_cases c0 : (((x2.length) : Nat) : Int) ≤ l
  case neg =>
    rw [if_neg c0] at s0
    rw [s0, Option.bind_some, if_neg (by omega)]
    all_goals rfl
  rw [if_pos c0] at s0
  rw [s0, Option.bind_some]
  dsimp only
  rw [decide_eq_false (by omega), cond_false]
  rw [if_pos (by omega)]
  all_goals first | rfl | (congr 2; done) | (congr 2; omega)
theorem to_Order (x0 : Int) (x1 : Int) (x2 : List (Int × Int)) (x3 : Int) (h : (x2.length) ≤ 1048576) : g_ltoOrder (x0, x1, x2, x3) = some ((x0, x1, x2, x3), ()) := by
  show f_ltoOrder BIG _ = _
  rw [e_ltoOrder]
  dsimp only
  rw [to_EdgeS x2 (by omega), Option.bind_some]
theorem eq_Order (x0 : Int) (x1 : Int) (x2 : List (Int × Int)) (x3 : Int) (h : (x2.length) ≤ 4294967296) : g_leqOrder ((x0, x1, x2, x3), (x0, x1, x2, x3)) = some (true, ()) := by
  show f_leqOrder BIG _ = _
  rw [e_leqOrder]
  dsimp only
  rw [decide_eq_true rfl, Bool.not_true, cond_false]
  rw [decide_eq_true rfl, Bool.not_true, cond_false]
  rw [eq_EdgeS x2 x2 (by omega), Option.bind_some]
  rw [decide_eq_true rfl, Bool.not_true, cond_false]
  rw [decide_eq_true rfl, Bool.not_true, cond_false]
theorem sz_Shard (x0 : Int) (x1 : Int) (x2 : List (Int × Int × Int × Bool)) (x3 : Int) (x4 : Bool) (x5 : List (Int × Int)) (x6 : List (Int)) (l : Int) (h0 : 0 ≤ l) (h1 : l ≤ 1048576) (q2 : x2.length ≤ maxLen) (q5 : x5.length ≤ maxLen) (q6 : x6.length ≤ maxLen) : g_lszShard ((x0, x1, x2, x3, x4, x5, x6), l) = some (if (((x2.length + x5.length + x6.length) : Nat) : Int) ≤ l then l - ((x2.length + x5.length + x6.length) : Nat) else -1, ()) := by
  show f_lszShard BIG _ = _
  rw [e_lszShard]
  dsimp only
  have s0 := sz_Web x1 x2 (l) (by omega) (by omega) q2
  by_cases c0 : (((x2.length) : Nat) : Int) ≤ l
  case neg =>
    rw [if_neg c0] at s0
    rw [s0, Option.bind_some, if_neg (by omega)]
    all_goals rfl
  rw [if_pos c0] at s0
  rw [s0, Option.bind_some]
  dsimp only
  rw [decide_eq_false (by omega), cond_false]
  have s1 := sz_Answer x3 x4 x5 x6 (l - ((x2.length) : Nat)) (by omega) (by omega) q5 q6
  by_cases c1 : (((x5.length + x6.length) : Nat) : Int) ≤ l - ((x2.length) : Nat)
  case neg =>
    rw [if_neg c1] at s1
    rw [s1, Option.bind_some, if_neg (by omega)]
    all_goals rfl
  rw [if_pos c1] at s1
  rw [s1, Option.bind_some]
  dsimp only
  rw [decide_eq_false (by omega), cond_false]
  rw [if_pos (by omega)]
  all_goals first | rfl | (congr 2; done) | (congr 2; omega)
theorem to_Shard (x0 : Int) (x1 : Int) (x2 : List (Int × Int × Int × Bool)) (x3 : Int) (x4 : Bool) (x5 : List (Int × Int)) (x6 : List (Int)) (h : (x2.length + x5.length + x6.length) ≤ 1048576) : g_ltoShard (x0, x1, x2, x3, x4, x5, x6) = some ((x0, x1, x2, x3, x4, x5, x6), ()) := by
  show f_ltoShard BIG _ = _
  rw [e_ltoShard]
  dsimp only
  rw [to_Web x1 x2 (by omega), Option.bind_some]
  rw [to_Answer x3 x4 x5 x6 (by omega), Option.bind_some]
theorem eq_Shard (x0 : Int) (x1 : Int) (x2 : List (Int × Int × Int × Bool)) (x3 : Int) (x4 : Bool) (x5 : List (Int × Int)) (x6 : List (Int)) (h : (x2.length + x5.length + x6.length) ≤ 4294967296) : g_leqShard ((x0, x1, x2, x3, x4, x5, x6), (x0, x1, x2, x3, x4, x5, x6)) = some (true, ()) := by
  show f_leqShard BIG _ = _
  rw [e_leqShard]
  dsimp only
  rw [decide_eq_true rfl, Bool.not_true, cond_false]
  rw [eq_Web x1 x2 (by omega), Option.bind_some]
  rw [Bool.not_true, cond_false]
  rw [eq_Answer x3 x4 x5 x6 (by omega), Option.bind_some]
  rw [Bool.not_true, cond_false]
theorem sz_Task (x0 : Int) (x1 : Int) (x2 : Int) (x3 : Int) (x4 : Int) (x5 : Int) (x6 : Int) (x7 : List (Int × Int)) (x8 : Int) (l : Int) (h0 : 0 ≤ l) (h1 : l ≤ 1048576) (q7 : x7.length ≤ maxLen) : g_lszTask ((x0, x1, x2, x3, x4, x5, x6, x7, x8), l) = some (if (((x7.length) : Nat) : Int) ≤ l then l - ((x7.length) : Nat) else -1, ()) := by
  show f_lszTask BIG _ = _
  rw [e_lszTask]
  dsimp only
  have s0 := sz_Order x5 x6 x7 x8 (l) (by omega) (by omega) q7
  by_cases c0 : (((x7.length) : Nat) : Int) ≤ l
  case neg =>
    rw [if_neg c0] at s0
    rw [s0, Option.bind_some, if_neg (by omega)]
    all_goals rfl
  rw [if_pos c0] at s0
  rw [s0, Option.bind_some]
  dsimp only
  rw [decide_eq_false (by omega), cond_false]
  rw [if_pos (by omega)]
  all_goals first | rfl | (congr 2; done) | (congr 2; omega)
theorem to_Task (x0 : Int) (x1 : Int) (x2 : Int) (x3 : Int) (x4 : Int) (x5 : Int) (x6 : Int) (x7 : List (Int × Int)) (x8 : Int) (h : (x7.length) ≤ 1048576) : g_ltoTask (x0, x1, x2, x3, x4, x5, x6, x7, x8) = some ((x0, x1, x2, x3, x4, x5, x6, x7, x8), ()) := by
  show f_ltoTask BIG _ = _
  rw [e_ltoTask]
  dsimp only
  rw [to_Ask x0 x1 x2 x3, Option.bind_some]
  rw [to_Order x5 x6 x7 x8 (by omega), Option.bind_some]
theorem eq_Task (x0 : Int) (x1 : Int) (x2 : Int) (x3 : Int) (x4 : Int) (x5 : Int) (x6 : Int) (x7 : List (Int × Int)) (x8 : Int) (h : (x7.length) ≤ 4294967296) : g_leqTask ((x0, x1, x2, x3, x4, x5, x6, x7, x8), (x0, x1, x2, x3, x4, x5, x6, x7, x8)) = some (true, ()) := by
  show f_leqTask BIG _ = _
  rw [e_leqTask]
  dsimp only
  rw [eq_Ask, Option.bind_some]
  rw [decide_eq_true rfl, Bool.not_true, cond_false]
  rw [decide_eq_true rfl, Bool.not_true, cond_false]
  rw [eq_Order x5 x6 x7 x8 (by omega), Option.bind_some]
  rw [Bool.not_true, cond_false]
theorem sz_Head (x0 : Int) (x1 : List (Int)) (x2 : List (Int × Int)) (x3 : List (List (Int))) (x4 : List (Int)) (x5 : Int) (x6 : Int) (x7 : Int) (x8 : Int) (x9 : Int) (x10 : Int) (x11 : Int) (x12 : List (Int × Int)) (x13 : Int) (x14 : List (Int × Int × Int × Int × Int × Int)) (l : Int) (h0 : 0 ≤ l) (h1 : l ≤ 1048576) (q1 : x1.length ≤ maxLen) (q2 : x2.length ≤ maxLen) (q3 : B_IntSS x3) (q4 : x4.length ≤ maxLen) (q12 : x12.length ≤ maxLen) (q14 : x14.length ≤ maxLen) : g_lszHead ((x0, x1, x2, x3, x4, x5, x6, x7, x8, x9, x10, x11, x12, x13, x14), l) = some (if (((x1.length + x2.length + z_IntSS x3 + x4.length + x12.length + x14.length) : Nat) : Int) ≤ l then l - ((x1.length + x2.length + z_IntSS x3 + x4.length + x12.length + x14.length) : Nat) else -1, ()) := by
  show f_lszHead BIG _ = _
  rw [e_lszHead]
  dsimp only
  have s0 := sz_IntS x1 (l) (by omega) (by omega) q1
  by_cases c0 : (((x1.length) : Nat) : Int) ≤ l
  case neg =>
    rw [if_neg c0] at s0
    rw [s0, Option.bind_some, if_neg (by omega)]
    all_goals rfl
  rw [if_pos c0] at s0
  rw [s0, Option.bind_some]
  dsimp only
  rw [decide_eq_false (by omega), cond_false]
  have s1 := sz_EdgeS x2 (l - ((x1.length) : Nat)) (by omega) (by omega) q2
  by_cases c1 : (((x2.length) : Nat) : Int) ≤ l - ((x1.length) : Nat)
  case neg =>
    rw [if_neg c1] at s1
    rw [s1, Option.bind_some, if_neg (by omega)]
    all_goals rfl
  rw [if_pos c1] at s1
  rw [s1, Option.bind_some]
  dsimp only
  rw [decide_eq_false (by omega), cond_false]
  have s2 := sz_IntSS x3 (l - ((x1.length) : Nat) - ((x2.length) : Nat)) (by omega) (by omega) q3
  by_cases c2 : (((z_IntSS x3) : Nat) : Int) ≤ l - ((x1.length) : Nat) - ((x2.length) : Nat)
  case neg =>
    rw [if_neg c2] at s2
    rw [s2, Option.bind_some, if_neg (by omega)]
    all_goals rfl
  rw [if_pos c2] at s2
  rw [s2, Option.bind_some]
  dsimp only
  rw [decide_eq_false (by omega), cond_false]
  have s3 := sz_IntS x4 (l - ((x1.length) : Nat) - ((x2.length) : Nat) - ((z_IntSS x3) : Nat)) (by omega) (by omega) q4
  by_cases c3 : (((x4.length) : Nat) : Int) ≤ l - ((x1.length) : Nat) - ((x2.length) : Nat) - ((z_IntSS x3) : Nat)
  case neg =>
    rw [if_neg c3] at s3
    rw [s3, Option.bind_some, if_neg (by omega)]
    all_goals rfl
  rw [if_pos c3] at s3
  rw [s3, Option.bind_some]
  dsimp only
  rw [decide_eq_false (by omega), cond_false]
  have s4 := sz_Task x5 x6 x7 x8 x9 x10 x11 x12 x13 (l - ((x1.length) : Nat) - ((x2.length) : Nat) - ((z_IntSS x3) : Nat) - ((x4.length) : Nat)) (by omega) (by omega) q12
  by_cases c4 : (((x12.length) : Nat) : Int) ≤ l - ((x1.length) : Nat) - ((x2.length) : Nat) - ((z_IntSS x3) : Nat) - ((x4.length) : Nat)
  case neg =>
    rw [if_neg c4] at s4
    rw [s4, Option.bind_some, if_neg (by omega)]
    all_goals rfl
  rw [if_pos c4] at s4
  rw [s4, Option.bind_some]
  dsimp only
  rw [decide_eq_false (by omega), cond_false]
  have s5 := sz_SaidS x14 (l - ((x1.length) : Nat) - ((x2.length) : Nat) - ((z_IntSS x3) : Nat) - ((x4.length) : Nat) - ((x12.length) : Nat)) (by omega) (by omega) q14
  by_cases c5 : (((x14.length) : Nat) : Int) ≤ l - ((x1.length) : Nat) - ((x2.length) : Nat) - ((z_IntSS x3) : Nat) - ((x4.length) : Nat) - ((x12.length) : Nat)
  case neg =>
    rw [if_neg c5] at s5
    rw [s5, Option.bind_some, if_neg (by omega)]
    all_goals rfl
  rw [if_pos c5] at s5
  rw [s5, Option.bind_some]
  dsimp only
  rw [decide_eq_false (by omega), cond_false]
  rw [if_pos (by omega)]
  all_goals first | rfl | (congr 2; done) | (congr 2; omega)
theorem to_Head (x0 : Int) (x1 : List (Int)) (x2 : List (Int × Int)) (x3 : List (List (Int))) (x4 : List (Int)) (x5 : Int) (x6 : Int) (x7 : Int) (x8 : Int) (x9 : Int) (x10 : Int) (x11 : Int) (x12 : List (Int × Int)) (x13 : Int) (x14 : List (Int × Int × Int × Int × Int × Int)) (h : (x1.length + x2.length + z_IntSS x3 + x4.length + x12.length + x14.length) ≤ 1048576) : g_ltoHead (x0, x1, x2, x3, x4, x5, x6, x7, x8, x9, x10, x11, x12, x13, x14) = some ((x0, x1, x2, x3, x4, x5, x6, x7, x8, x9, x10, x11, x12, x13, x14), ()) := by
  show f_ltoHead BIG _ = _
  rw [e_ltoHead]
  dsimp only
  rw [to_IntS x1 (by omega), Option.bind_some]
  rw [to_EdgeS x2 (by omega), Option.bind_some]
  rw [to_IntSS x3 (by omega), Option.bind_some]
  rw [to_IntS x4 (by omega), Option.bind_some]
  rw [to_Task x5 x6 x7 x8 x9 x10 x11 x12 x13 (by omega), Option.bind_some]
  rw [to_SaidS x14 (by omega), Option.bind_some]
theorem eq_Head (x0 : Int) (x1 : List (Int)) (x2 : List (Int × Int)) (x3 : List (List (Int))) (x4 : List (Int)) (x5 : Int) (x6 : Int) (x7 : Int) (x8 : Int) (x9 : Int) (x10 : Int) (x11 : Int) (x12 : List (Int × Int)) (x13 : Int) (x14 : List (Int × Int × Int × Int × Int × Int)) (h : (x1.length + x2.length + z_IntSS x3 + x4.length + x12.length + x14.length) ≤ 4294967296) : g_leqHead ((x0, x1, x2, x3, x4, x5, x6, x7, x8, x9, x10, x11, x12, x13, x14), (x0, x1, x2, x3, x4, x5, x6, x7, x8, x9, x10, x11, x12, x13, x14)) = some (true, ()) := by
  show f_leqHead BIG _ = _
  rw [e_leqHead]
  dsimp only
  rw [decide_eq_true rfl, Bool.not_true, cond_false]
  rw [eq_IntS x1 x1 (by omega), Option.bind_some]
  rw [decide_eq_true rfl, Bool.not_true, cond_false]
  rw [eq_EdgeS x2 x2 (by omega), Option.bind_some]
  rw [decide_eq_true rfl, Bool.not_true, cond_false]
  rw [eq_IntSS x3 x3 (by omega), Option.bind_some]
  rw [decide_eq_true rfl, Bool.not_true, cond_false]
  rw [eq_IntS x4 x4 (by omega), Option.bind_some]
  rw [decide_eq_true rfl, Bool.not_true, cond_false]
  rw [eq_Task x5 x6 x7 x8 x9 x10 x11 x12 x13 (by omega), Option.bind_some]
  rw [Bool.not_true, cond_false]
  rw [eq_SaidS x14 x14 (by omega), Option.bind_some]
  rw [decide_eq_true rfl, Bool.not_true, cond_false]
theorem sz_Rec (x0 : Int) (x1 : Int) (x2 : Int) (x3 : Int) (x4 : Int) (x5 : Int) (x6 : Int) (x7 : Bool) (x8 : List (Int × Int)) (x9 : List (Int)) (x10 : Int) (x11 : Int) (x12 : List (Int × Int)) (x13 : Int) (l : Int) (h0 : 0 ≤ l) (h1 : l ≤ 1048576) (q8 : x8.length ≤ maxLen) (q9 : x9.length ≤ maxLen) (q12 : x12.length ≤ maxLen) : g_lszRec ((x0, x1, x2, x3, x4, x5, x6, x7, x8, x9, x10, x11, x12, x13), l) = some (if (((x8.length + x9.length + x12.length) : Nat) : Int) ≤ l then l - ((x8.length + x9.length + x12.length) : Nat) else -1, ()) := by
  show f_lszRec BIG _ = _
  rw [e_lszRec]
  dsimp only
  have s0 := sz_Answer x6 x7 x8 x9 (l) (by omega) (by omega) q8 q9
  by_cases c0 : (((x8.length + x9.length) : Nat) : Int) ≤ l
  case neg =>
    rw [if_neg c0] at s0
    rw [s0, Option.bind_some, if_neg (by omega)]
    all_goals rfl
  rw [if_pos c0] at s0
  rw [s0, Option.bind_some]
  dsimp only
  rw [decide_eq_false (by omega), cond_false]
  have s1 := sz_Order x10 x11 x12 x13 (l - ((x8.length + x9.length) : Nat)) (by omega) (by omega) q12
  by_cases c1 : (((x12.length) : Nat) : Int) ≤ l - ((x8.length + x9.length) : Nat)
  case neg =>
    rw [if_neg c1] at s1
    rw [s1, Option.bind_some, if_neg (by omega)]
    all_goals rfl
  rw [if_pos c1] at s1
  rw [s1, Option.bind_some]
  dsimp only
  rw [decide_eq_false (by omega), cond_false]
  rw [if_pos (by omega)]
  all_goals first | rfl | (congr 2; done) | (congr 2; omega)
theorem to_Rec (x0 : Int) (x1 : Int) (x2 : Int) (x3 : Int) (x4 : Int) (x5 : Int) (x6 : Int) (x7 : Bool) (x8 : List (Int × Int)) (x9 : List (Int)) (x10 : Int) (x11 : Int) (x12 : List (Int × Int)) (x13 : Int) (h : (x8.length + x9.length + x12.length) ≤ 1048576) : g_ltoRec (x0, x1, x2, x3, x4, x5, x6, x7, x8, x9, x10, x11, x12, x13) = some ((x0, x1, x2, x3, x4, x5, x6, x7, x8, x9, x10, x11, x12, x13), ()) := by
  show f_ltoRec BIG _ = _
  rw [e_ltoRec]
  dsimp only
  rw [to_Ask x1 x2 x3 x4, Option.bind_some]
  rw [to_Answer x6 x7 x8 x9 (by omega), Option.bind_some]
  rw [to_Order x10 x11 x12 x13 (by omega), Option.bind_some]
theorem eq_Rec (x0 : Int) (x1 : Int) (x2 : Int) (x3 : Int) (x4 : Int) (x5 : Int) (x6 : Int) (x7 : Bool) (x8 : List (Int × Int)) (x9 : List (Int)) (x10 : Int) (x11 : Int) (x12 : List (Int × Int)) (x13 : Int) (h : (x8.length + x9.length + x12.length) ≤ 4294967296) : g_leqRec ((x0, x1, x2, x3, x4, x5, x6, x7, x8, x9, x10, x11, x12, x13), (x0, x1, x2, x3, x4, x5, x6, x7, x8, x9, x10, x11, x12, x13)) = some (true, ()) := by
  show f_leqRec BIG _ = _
  rw [e_leqRec]
  dsimp only
  rw [decide_eq_true rfl, Bool.not_true, cond_false]
  rw [eq_Ask, Option.bind_some]
  rw [decide_eq_true rfl, Bool.not_true, cond_false]
  rw [decide_eq_true rfl, Bool.not_true, cond_false]
  rw [eq_Answer x6 x7 x8 x9 (by omega), Option.bind_some]
  rw [Bool.not_true, cond_false]
  rw [eq_Order x10 x11 x12 x13 (by omega), Option.bind_some]
  rw [Bool.not_true, cond_false]
def z_RecS (a : List (Int × Int × Int × Int × Int × Int × Int × Bool × List (Int × Int) × List (Int) × Int × Int × List (Int × Int) × Int)) : Nat := a.length + (a.map fun y => (y.2.2.2.2.2.2.2.2.1.length + y.2.2.2.2.2.2.2.2.2.1.length + y.2.2.2.2.2.2.2.2.2.2.2.2.1.length)).sum
abbrev B_RecS (a : List (Int × Int × Int × Int × Int × Int × Int × Bool × List (Int × Int) × List (Int) × Int × Int × List (Int × Int) × Int)) : Prop := a.length ≤ maxLen ∧ ∀ y, y ∈ a → y.2.2.2.2.2.2.2.2.1.length ≤ maxLen ∧ y.2.2.2.2.2.2.2.2.2.1.length ≤ maxLen ∧ y.2.2.2.2.2.2.2.2.2.2.2.2.1.length ≤ maxLen
theorem z_RecS_mem {a : List (Int × Int × Int × Int × Int × Int × Int × Bool × List (Int × Int) × List (Int) × Int × Int × List (Int × Int) × Int)} {y : Int × Int × Int × Int × Int × Int × Int × Bool × List (Int × Int) × List (Int) × Int × Int × List (Int × Int) × Int} (h : y ∈ a) : (y.2.2.2.2.2.2.2.2.1.length + y.2.2.2.2.2.2.2.2.2.1.length + y.2.2.2.2.2.2.2.2.2.2.2.2.1.length) ≤ z_RecS a := by
  have : ∀ a : List (Int × Int × Int × Int × Int × Int × Int × Bool × List (Int × Int) × List (Int) × Int × Int × List (Int × Int) × Int), y ∈ a → (y.2.2.2.2.2.2.2.2.1.length + y.2.2.2.2.2.2.2.2.2.1.length + y.2.2.2.2.2.2.2.2.2.2.2.2.1.length) ≤ (a.map fun y => (y.2.2.2.2.2.2.2.2.1.length + y.2.2.2.2.2.2.2.2.2.1.length + y.2.2.2.2.2.2.2.2.2.2.2.2.1.length)).sum := by
    intro a
    induction a with
    | nil => intro h; cases h
    | cons x a ih =>
      intro h
      rw [List.map_cons, List.sum_cons]
      rcases List.mem_cons.1 h with rfl | h
      · omega
      · have := ih h; omega
  have := this a h
  unfold z_RecS; omega
theorem sz_RecS (a : List (Int × Int × Int × Int × Int × Int × Int × Bool × List (Int × Int) × List (Int) × Int × Int × List (Int × Int) × Int)) (l : Int) (h0 : 0 ≤ l) (h1 : l ≤ 1048576) (ha : B_RecS a) : g_lszRecS (a, l) = some (if ((z_RecS a : Nat) : Int) ≤ l then l - (z_RecS a : Nat) else -1, ()) := by
  have hm : maxLen = 9223372036854775807 := by decide
  have ha1 := ha.1
  show f_lszRecS BIG _ = _
  rw [e_lszRecS, wr (by omega) (by omega)]
  by_cases h : ((a.length : Nat) : Int) ≤ l
  case neg =>
    rw [decide_eq_true (by omega), cond_true, if_neg (by unfold z_RecS; omega)]
  rw [decide_eq_false (by omega), cond_false, szLoop a (fun y => (y.2.2.2.2.2.2.2.2.1.length + y.2.2.2.2.2.2.2.2.2.1.length + y.2.2.2.2.2.2.2.2.2.2.2.2.1.length)) (-1) (l - (a.length : Nat)) (by omega) (by omega) (by omega)]
  · unfold z_RecS
    by_cases c : (((a.map fun y => (y.2.2.2.2.2.2.2.2.1.length + y.2.2.2.2.2.2.2.2.2.1.length + y.2.2.2.2.2.2.2.2.2.2.2.2.1.length)).sum : Nat) : Int) ≤ l - (a.length : Nat)
    · rw [if_pos c, if_pos (by omega)]
      simp only [Option.bind_some]
      congr 2
      omega
    · rw [if_neg c, if_neg (by omega)]
      rfl
  · intro self i l y hy h0 h1
    have hi := (List.getElem?_eq_some_iff.1 hy).1
    have hq := ha.2 y (List.mem_of_getElem? hy)
    simp only [show ((i : Int) < (a.length : Int)) from by omega, decide_true, cond_true]
    have e := sz_Rec y.1 y.2.1 y.2.2.1 y.2.2.2.1 y.2.2.2.2.1 y.2.2.2.2.2.1 y.2.2.2.2.2.2.1 y.2.2.2.2.2.2.2.1 y.2.2.2.2.2.2.2.2.1 y.2.2.2.2.2.2.2.2.2.1 y.2.2.2.2.2.2.2.2.2.2.1 y.2.2.2.2.2.2.2.2.2.2.2.1 y.2.2.2.2.2.2.2.2.2.2.2.2.1 y.2.2.2.2.2.2.2.2.2.2.2.2.2 l h0 h1 hq.1 hq.2.1 hq.2.2
    rw [bnd_nat hi, hy, Option.bind_some]
    refine (congrArg (fun o => Option.bind o _) e).trans ?_
    rw [Option.bind_some]
    by_cases c : (((y.2.2.2.2.2.2.2.2.1.length + y.2.2.2.2.2.2.2.2.2.1.length + y.2.2.2.2.2.2.2.2.2.2.2.2.1.length) : Nat) : Int) ≤ l
    · rw [if_pos c, if_pos c, decide_eq_false (by omega), cond_false, wr1 (by omega)]
    · rw [if_neg c, if_neg c, decide_eq_true (by omega), cond_true]
  · intro self l
    simp
theorem to_RecS (a : List (Int × Int × Int × Int × Int × Int × Int × Bool × List (Int × Int) × List (Int) × Int × Int × List (Int × Int) × Int)) (h : z_RecS a ≤ 1048576) : g_ltoRecS a = some (a, ()) := by
  have hm : maxLen = 9223372036854775807 := by decide
  have h1 : a.length ≤ 1048576 := by unfold z_RecS at h; omega
  show f_ltoRecS BIG _ = _
  rw [e_ltoRecS, decide_eq_true (by omega), cond_true, decide_eq_true (by simp; omega), cond_true]
  simp only [Int.toNat_natCast]
  rw [cpLoop a (by omega)]
  · rfl
  · intro self out i y hl hy
    have hi := (List.getElem?_eq_some_iff.1 hy).1
    have hz := z_RecS_mem (List.mem_of_getElem? hy)
    simp only [show ((i : Int) < (a.length : Int)) from by omega, decide_true, cond_true]
    have e := to_Rec y.1 y.2.1 y.2.2.1 y.2.2.2.1 y.2.2.2.2.1 y.2.2.2.2.2.1 y.2.2.2.2.2.2.1 y.2.2.2.2.2.2.2.1 y.2.2.2.2.2.2.2.2.1 y.2.2.2.2.2.2.2.2.2.1 y.2.2.2.2.2.2.2.2.2.2.1 y.2.2.2.2.2.2.2.2.2.2.2.1 y.2.2.2.2.2.2.2.2.2.2.2.2.1 y.2.2.2.2.2.2.2.2.2.2.2.2.2 (by omega)
    rw [bnd_nat hi, hy, Option.bind_some]
    refine (congrArg (fun o => Option.bind o _) e).trans ?_
    rw [Option.bind_some, bnd_nat (by omega), List.getElem?_eq_getElem (by omega), Option.bind_some, wr1 (by omega)]
  · intro self out hl
    simp
theorem eq_RecS (a : List (Int × Int × Int × Int × Int × Int × Int × Bool × List (Int × Int) × List (Int) × Int × Int × List (Int × Int) × Int)) (h : z_RecS a ≤ 4294967296) : g_leqRecS (a, a) = some (true, ()) := by
  have hm : maxLen = 9223372036854775807 := by decide
  have h1 : a.length ≤ 4294967296 := by unfold z_RecS at h; omega
  show f_leqRecS BIG _ = _
  rw [e_leqRecS, decide_eq_true rfl, Bool.not_true, cond_false, allLoop a (by omega) (fun _ => true) false]
  · rw [if_pos (fun _ _ => rfl)]; rfl
  · intro self i y hy
    have hi := (List.getElem?_eq_some_iff.1 hy).1
    have hz := z_RecS_mem (List.mem_of_getElem? hy)
    have e : g_leqRec (y, y) = some (true, ()) := eq_Rec y.1 y.2.1 y.2.2.1 y.2.2.2.1 y.2.2.2.2.1 y.2.2.2.2.2.1 y.2.2.2.2.2.2.1 y.2.2.2.2.2.2.2.1 y.2.2.2.2.2.2.2.2.1 y.2.2.2.2.2.2.2.2.2.1 y.2.2.2.2.2.2.2.2.2.2.1 y.2.2.2.2.2.2.2.2.2.2.2.1 y.2.2.2.2.2.2.2.2.2.2.2.2.1 y.2.2.2.2.2.2.2.2.2.2.2.2.2 (by omega)
    simp only [show ((i : Int) < (a.length : Int)) from by omega, decide_true, cond_true]
    rw [bnd_nat hi, hy, Option.bind_some, bnd_nat hi, hy, Option.bind_some, e, Option.bind_some, wr1 (by omega)]
    rfl
  · intro self; simp
def z_ShardS (a : List (Int × Int × List (Int × Int × Int × Bool) × Int × Bool × List (Int × Int) × List (Int))) : Nat := a.length + (a.map fun y => (y.2.2.1.length + y.2.2.2.2.2.1.length + y.2.2.2.2.2.2.length)).sum
abbrev B_ShardS (a : List (Int × Int × List (Int × Int × Int × Bool) × Int × Bool × List (Int × Int) × List (Int))) : Prop := a.length ≤ maxLen ∧ ∀ y, y ∈ a → y.2.2.1.length ≤ maxLen ∧ y.2.2.2.2.2.1.length ≤ maxLen ∧ y.2.2.2.2.2.2.length ≤ maxLen
theorem z_ShardS_mem {a : List (Int × Int × List (Int × Int × Int × Bool) × Int × Bool × List (Int × Int) × List (Int))} {y : Int × Int × List (Int × Int × Int × Bool) × Int × Bool × List (Int × Int) × List (Int)} (h : y ∈ a) : (y.2.2.1.length + y.2.2.2.2.2.1.length + y.2.2.2.2.2.2.length) ≤ z_ShardS a := by
  have : ∀ a : List (Int × Int × List (Int × Int × Int × Bool) × Int × Bool × List (Int × Int) × List (Int)), y ∈ a → (y.2.2.1.length + y.2.2.2.2.2.1.length + y.2.2.2.2.2.2.length) ≤ (a.map fun y => (y.2.2.1.length + y.2.2.2.2.2.1.length + y.2.2.2.2.2.2.length)).sum := by
    intro a
    induction a with
    | nil => intro h; cases h
    | cons x a ih =>
      intro h
      rw [List.map_cons, List.sum_cons]
      rcases List.mem_cons.1 h with rfl | h
      · omega
      · have := ih h; omega
  have := this a h
  unfold z_ShardS; omega
theorem sz_ShardS (a : List (Int × Int × List (Int × Int × Int × Bool) × Int × Bool × List (Int × Int) × List (Int))) (l : Int) (h0 : 0 ≤ l) (h1 : l ≤ 1048576) (ha : B_ShardS a) : g_lszShardS (a, l) = some (if ((z_ShardS a : Nat) : Int) ≤ l then l - (z_ShardS a : Nat) else -1, ()) := by
  have hm : maxLen = 9223372036854775807 := by decide
  have ha1 := ha.1
  show f_lszShardS BIG _ = _
  rw [e_lszShardS, wr (by omega) (by omega)]
  by_cases h : ((a.length : Nat) : Int) ≤ l
  case neg =>
    rw [decide_eq_true (by omega), cond_true, if_neg (by unfold z_ShardS; omega)]
  rw [decide_eq_false (by omega), cond_false, szLoop a (fun y => (y.2.2.1.length + y.2.2.2.2.2.1.length + y.2.2.2.2.2.2.length)) (-1) (l - (a.length : Nat)) (by omega) (by omega) (by omega)]
  · unfold z_ShardS
    by_cases c : (((a.map fun y => (y.2.2.1.length + y.2.2.2.2.2.1.length + y.2.2.2.2.2.2.length)).sum : Nat) : Int) ≤ l - (a.length : Nat)
    · rw [if_pos c, if_pos (by omega)]
      simp only [Option.bind_some]
      congr 2
      omega
    · rw [if_neg c, if_neg (by omega)]
      rfl
  · intro self i l y hy h0 h1
    have hi := (List.getElem?_eq_some_iff.1 hy).1
    have hq := ha.2 y (List.mem_of_getElem? hy)
    simp only [show ((i : Int) < (a.length : Int)) from by omega, decide_true, cond_true]
    have e := sz_Shard y.1 y.2.1 y.2.2.1 y.2.2.2.1 y.2.2.2.2.1 y.2.2.2.2.2.1 y.2.2.2.2.2.2 l h0 h1 hq.1 hq.2.1 hq.2.2
    rw [bnd_nat hi, hy, Option.bind_some]
    refine (congrArg (fun o => Option.bind o _) e).trans ?_
    rw [Option.bind_some]
    by_cases c : (((y.2.2.1.length + y.2.2.2.2.2.1.length + y.2.2.2.2.2.2.length) : Nat) : Int) ≤ l
    · rw [if_pos c, if_pos c, decide_eq_false (by omega), cond_false, wr1 (by omega)]
    · rw [if_neg c, if_neg c, decide_eq_true (by omega), cond_true]
  · intro self l
    simp
theorem to_ShardS (a : List (Int × Int × List (Int × Int × Int × Bool) × Int × Bool × List (Int × Int) × List (Int))) (h : z_ShardS a ≤ 1048576) : g_ltoShardS a = some (a, ()) := by
  have hm : maxLen = 9223372036854775807 := by decide
  have h1 : a.length ≤ 1048576 := by unfold z_ShardS at h; omega
  show f_ltoShardS BIG _ = _
  rw [e_ltoShardS, decide_eq_true (by omega), cond_true, decide_eq_true (by simp; omega), cond_true]
  simp only [Int.toNat_natCast]
  rw [cpLoop a (by omega)]
  · rfl
  · intro self out i y hl hy
    have hi := (List.getElem?_eq_some_iff.1 hy).1
    have hz := z_ShardS_mem (List.mem_of_getElem? hy)
    simp only [show ((i : Int) < (a.length : Int)) from by omega, decide_true, cond_true]
    have e := to_Shard y.1 y.2.1 y.2.2.1 y.2.2.2.1 y.2.2.2.2.1 y.2.2.2.2.2.1 y.2.2.2.2.2.2 (by omega)
    rw [bnd_nat hi, hy, Option.bind_some]
    refine (congrArg (fun o => Option.bind o _) e).trans ?_
    rw [Option.bind_some, bnd_nat (by omega), List.getElem?_eq_getElem (by omega), Option.bind_some, wr1 (by omega)]
  · intro self out hl
    simp
theorem eq_ShardS (a : List (Int × Int × List (Int × Int × Int × Bool) × Int × Bool × List (Int × Int) × List (Int))) (h : z_ShardS a ≤ 4294967296) : g_leqShardS (a, a) = some (true, ()) := by
  have hm : maxLen = 9223372036854775807 := by decide
  have h1 : a.length ≤ 4294967296 := by unfold z_ShardS at h; omega
  show f_leqShardS BIG _ = _
  rw [e_leqShardS, decide_eq_true rfl, Bool.not_true, cond_false, allLoop a (by omega) (fun _ => true) false]
  · rw [if_pos (fun _ _ => rfl)]; rfl
  · intro self i y hy
    have hi := (List.getElem?_eq_some_iff.1 hy).1
    have hz := z_ShardS_mem (List.mem_of_getElem? hy)
    have e : g_leqShard (y, y) = some (true, ()) := eq_Shard y.1 y.2.1 y.2.2.1 y.2.2.2.1 y.2.2.2.2.1 y.2.2.2.2.2.1 y.2.2.2.2.2.2 (by omega)
    simp only [show ((i : Int) < (a.length : Int)) from by omega, decide_true, cond_true]
    rw [bnd_nat hi, hy, Option.bind_some, bnd_nat hi, hy, Option.bind_some, e, Option.bind_some, wr1 (by omega)]
    rfl
  · intro self; simp
theorem sz_BoolS (a : List (Bool)) (l : Int) (h0 : 0 ≤ l) (h1 : l ≤ 1048576) (ha : a.length ≤ maxLen) : g_lszBoolS (a, l) = some (if ((a.length : Nat) : Int) ≤ l then l - (a.length : Nat) else -1, ()) := by
  have hm : maxLen = 9223372036854775807 := by decide
  show f_lszBoolS BIG _ = _
  rw [e_lszBoolS, wr (by omega) (by omega)]
  by_cases h : ((a.length : Nat) : Int) ≤ l
  · rw [if_pos h, decide_eq_false (by omega), cond_false]
  · rw [if_neg h, decide_eq_true (by omega), cond_true]
theorem to_BoolS (a : List (Bool)) (h : a.length ≤ 1048576) : g_ltoBoolS a = some (a, ()) := by
  have hm : maxLen = 9223372036854775807 := by decide
  show f_ltoBoolS BIG _ = _
  rw [e_ltoBoolS, decide_eq_true (by omega), cond_true, decide_eq_true (by simp; omega), cond_true]
  simp only [Int.toNat_natCast]
  rw [cpLoop a (by omega)]
  · rfl
  · intro self out i y hl hy
    have hi := (List.getElem?_eq_some_iff.1 hy).1
    simp only [show ((i : Int) < (a.length : Int)) from by omega, decide_true, cond_true]
    rw [bnd_nat hi, hy, Option.bind_some]
    rw [bnd_nat (by omega), List.getElem?_eq_getElem (by omega), Option.bind_some, wr1 (by omega)]
  · intro self out hl
    simp
theorem eq_BoolS (a b : List (Bool)) (h : a.length ≤ 4294967296) : g_leqBoolS (a, b) = some (decide (a = b), ()) := by
  have hm : maxLen = 9223372036854775807 := by decide
  show f_leqBoolS BIG _ = _
  rw [e_leqBoolS]
  by_cases hl : a.length = b.length
  · rw [decide_eq_true (by omega), Bool.not_true, cond_false, eqLoop a b (by omega) hl false]
    · by_cases h : a = b <;> simp [h]
    · intro self i x y hx hy
      have hi := (List.getElem?_eq_some_iff.1 hx).1
      simp only [show ((i : Int) < (a.length : Int)) from by omega, decide_true, cond_true]
      rw [bnd_nat hi, hx, Option.bind_some, bnd_nat (by omega), hy, Option.bind_some]
      rw [wr1 (by omega)]
      cases x <;> cases y <;> simp
    · intro self
      simp
  · rw [decide_eq_false (by omega), Bool.not_false, cond_true, decide_eq_false (fun h => hl (by rw [h]))]
abbrev Led := Int × Int × Int × Bool
theorem grLoop (E : List Led) (hE : E.length ≤ 4294967295) {n : Int} {F : ((Int × List (Int × Int)) × Int → Option (Int × List (Int × Int))) → (Int × List (Int × Int)) × Int → Option (Int × List (Int × Int))}
    (hF : ∀ self out (i : Nat) y, E[i]? = some y → F self ((n, out), (i : Int)) = bif decide (out.length + 1 ≤ 4294967296) then self ((n, out ++ [(y.1, y.2.1)]), ((i + 1 : Nat) : Int)) else none)
    (hE' : ∀ self x, F self (x, (E.length : Int)) = some x) : loopT BIG F ((n, []), 0) = some (n, E.map fun x => (x.1, x.2.1)) := by
  rw [foldLoop E (by omega) (fun i (s : Int × List (Int × Int)) => s.1 = n ∧ s.2.length = i) (fun s y => (s.1, s.2 ++ [(y.1, y.2.1)])) id ⟨rfl, rfl⟩ (fun i s y _ h => ⟨h.1, by simp [h.2]⟩)]
  · have : ∀ (l : List Led) (s : Int × List (Int × Int)), l.foldl (fun s y => (s.1, s.2 ++ [(y.1, y.2.1)])) s = (s.1, s.2 ++ l.map fun x => (x.1, x.2.1)) := by
      intro l
      induction l with
      | nil => intro s; simp
      | cons y l ih => intro s; rw [List.foldl_cons, ih]; simp
    rw [this]; simp
  · rintro self ⟨m, out⟩ i y hy ⟨rfl, h2⟩
    simp only at h2
    have hi := (List.getElem?_eq_some_iff.1 hy).1
    rw [hF self out i y hy, decide_eq_true (by omega), cond_true]
  · intro self s _
    exact hE' self s
theorem h_iGraphOf (n : Int) (E : List Led) (hE : E.length ≤ 1048576) : g_iGraphOf (n, E) = some ((n, E.map fun x => (x.1, x.2.1)), ()) := by
  have hm : maxLen = 9223372036854775807 := by decide
  show f_iGraphOf BIG _ = _
  rw [e_iGraphOf]
  dsimp only
  rw [grLoop E (by omega)]
  · rfl
  · intro self out i y hy
    have hi := (List.getElem?_eq_some_iff.1 hy).1
    simp only [show ((i : Int) < (E.length : Int)) from by omega, decide_true, cond_true]
    rw [bnd_nat hi, hy, Option.bind_some, wr1 (by omega)]
    rfl
  · intro self x
    simp
theorem h_sGraphOf (n : Int) (E : List Led) (hE : E.length ≤ 1048576) : g_sGraphOf (n, E) = some ((n, E.map fun x => (x.1, x.2.1)), ()) := by
  have hm : maxLen = 9223372036854775807 := by decide
  show f_sGraphOf BIG _ = _
  rw [e_sGraphOf]
  dsimp only
  rw [grLoop E (by omega)]
  · rfl
  · intro self out i y hy
    have hi := (List.getElem?_eq_some_iff.1 hy).1
    simp only [show ((i : Int) < (E.length : Int)) from by omega, decide_true, cond_true]
    rw [bnd_nat hi, hy, Option.bind_some, bnd_nat hi, hy, Option.bind_some, wr1 (by omega)]
    rfl
  · intro self x
    simp
theorem h_iOwned (x0 x1 : Int) (x2 : List Led) (x3 : Int) (x4 : Bool) (x5 : List Ed) (x6 : List Int) (hE : x2.length ≤ 1048576) : g_iOwned (x0, x1, x2, x3, x4, x5, x6) = some (x2.map fun x => (x.1, x.2.1), ()) := by
  show f_iOwned BIG _ = _
  rw [e_iOwned]
  dsimp only
  rw [h_iGraphOf _ _ hE]
  rfl
theorem h_sOwned (x0 x1 : Int) (x2 : List Led) (x3 : Int) (x4 : Bool) (x5 : List Ed) (x6 : List Int) (hE : x2.length ≤ 1048576) : g_sOwned (x0, x1, x2, x3, x4, x5, x6) = some (x2.map fun x => (x.1, x.2.1), ()) := by
  show f_sOwned BIG _ = _
  rw [e_sOwned]
  dsimp only
  rw [h_sGraphOf _ _ hE]
  simp only [Option.bind_some]
  rw [decide_eq_true (by simp; omega), cond_true]
  rfl
/-- A byte of a number. -/
def by8 (n : Int) : UInt8 := UInt8.ofNat (n % 256).toNat
def vF : Nat → Nat → List UInt8
  | 0, v => [by8 (v : Int)]
  | k + 1, v => if v ≤ 127 then [by8 (v : Int)] else by8 ((v % 128 + 128 : Nat) : Int) :: vF k (v / 128)
def vB (v : Nat) : List UInt8 := vF 9 v
def e2 (e : Ed) : List UInt8 := [by8 e.1, by8 e.2]
/-- A number read off bytes, of which it takes so many at most; and how many it took. -/
def dec : Nat → List UInt8 → Option (Nat × Nat)
  | 0, _ => none
  | _ + 1, [] => none
  | k + 1, b :: l => if b.toNat < 128 then some (b.toNat, 1) else (dec k l).map fun r => (b.toNat - 128 + 128 * r.1, r.2 + 1)
/-- What is read there, when it is a number in its own bytes. -/
def rdV (l : List UInt8) : Option (Nat × Nat) := match dec 5 l with
  | some (v, m) => if v ≤ 1000000000 ∧ vB v = l.take m then some (v, m) else none
  | none => none
abbrev St := Nat × Bool
def nm (T : List UInt8) (s : St) : Int × St :=
  if s.2 then (0, (s.1, true)) else match rdV (T.drop s.1) with
  | some (v, m) => ((v : Int), (s.1 + m, false))
  | none => (0, (s.1, true))
def on (T : List UInt8) (s : St) : Int × St :=
  if s.2 then (0, (s.1, true)) else match T[s.1]? with
  | some b => ((b.toNat : Int), (s.1 + 1, false))
  | none => (0, (s.1, true))
def edF (T : List UInt8) : Nat → St → List Ed → St × List Ed
  | 0, s, out => (s, out)
  | k + 1, s, out => if s.2 then (s, out) else edF T k (on T (on T s).2).2 (out ++ [((on T s).1, (on T (on T s).2).1)])
def q0 (T : List UInt8) : Int × St := nm T (0, false)
def q1 (T : List UInt8) : Int × St := on T (q0 T).2
def q2 (T : List UInt8) : Int × St := nm T (q1 T).2
def q3 (T : List UInt8) (K : Nat) : St × List Ed := edF T K (nm T (q2 T).2).2 []
def lbF (T : List UInt8) : Nat → St → List Int → St × List Int
  | 0, s, out => (s, out)
  | k + 1, s, out => lbF T k (on T s).2 (out ++ [(on T s).1])
def q4 (T : List UInt8) (K : Nat) : St × List Ed := edF T K (nm T (q1 T).2).2 []
def q5 (T : List UInt8) (K N : Nat) : St × List Int := lbF T N (q4 T K).1 []
abbrev Rc := Int × Int × Int × Int × Int × Int × Int × Bool × List (Int × Int) × List Int × Int × Int × List (Int × Int) × Int
abbrev Fl := ByteArray × ByteArray × Int
theorem to_FileS (a : List Fl) (h : a.length ≤ 1048576) : g_ltoFileS a = some (a, ()) := by
  have hm : maxLen = 9223372036854775807 := by decide
  show f_ltoFileS BIG _ = _
  rw [e_ltoFileS, decide_eq_true (by omega), cond_true, decide_eq_true (by simp; omega), cond_true]
  simp only [Int.toNat_natCast]
  rw [cpLoop a (by omega)]
  · rfl
  · intro self out i y hl hy
    have hi := (List.getElem?_eq_some_iff.1 hy).1
    simp only [show ((i : Int) < (a.length : Int)) from by omega, decide_true, cond_true]
    have e : g_ltoFile y = some (y, ()) := by
      show f_ltoFile BIG _ = _
      rw [e_ltoFile]
    rw [bnd_nat hi, hy, Option.bind_some, e, Option.bind_some]
    rw [bnd_nat (by omega), List.getElem?_eq_getElem (by omega), Option.bind_some, wr1 (by omega)]
  · intro self out hl
    simp
theorem to_Disk (a : List Fl) (h : a.length ≤ 1048576) : g_ltoDisk a = some (a, ()) := by
  show f_ltoDisk BIG _ = _
  rw [e_ltoDisk, to_FileS a h]; rfl
theorem eq_FileS (a : List Fl) (h : a.length ≤ 1048576) : g_leqFileS (a, a) = some (true, ()) := by
  have hm : maxLen = 9223372036854775807 := by decide
  show f_leqFileS BIG _ = _
  rw [e_leqFileS, decide_eq_true rfl, Bool.not_true, cond_false, allLoop a (by omega) (fun _ => true) false]
  · rw [if_pos (fun _ _ => rfl)]; rfl
  · intro self i y hy
    have hi := (List.getElem?_eq_some_iff.1 hy).1
    have e : g_leqFile (y, y) = some (true, ()) := by
      show f_leqFile BIG _ = _
      rw [e_leqFile]; simp
    simp only [show ((i : Int) < (a.length : Int)) from by omega, decide_true, cond_true]
    rw [bnd_nat hi, hy, Option.bind_some, bnd_nat hi, hy, Option.bind_some, e, Option.bind_some, wr1 (by omega)]
    rfl
  · intro self; simp
theorem eq_Disk (a : List Fl) (h : a.length ≤ 1048576) : g_leqDisk (a, a) = some (true, ()) := by
  show f_leqDisk BIG _ = _
  rw [e_leqDisk, eq_FileS a h]; rfl
def zFl (y : Fl) : Nat := y.1.size + y.2.1.size
def zFS (a : List Fl) : Nat := a.length + (a.map zFl).sum
theorem sz_FileS (a : List Fl) (l : Int) (h0 : 0 ≤ l) (h1 : l ≤ 1048576) (ha : a.length ≤ maxLen ∧ ∀ y, y ∈ a → y.1.size ≤ maxLen ∧ y.2.1.size ≤ maxLen) : g_lszFileS (a, l) = some (if ((zFS a : Nat) : Int) ≤ l then l - (zFS a : Nat) else -1, ()) := by
  have hm : maxLen = 9223372036854775807 := by decide
  have h2 := ha.1
  show f_lszFileS BIG _ = _
  rw [e_lszFileS, wr (by omega) (by omega)]
  unfold zFS
  by_cases h : ((a.length : Nat) : Int) ≤ l
  · rw [decide_eq_false (by omega), cond_false, szLoop a zFl (-1) (l - a.length) (by omega) (by omega) (by omega)]
    · by_cases hq : ((a.map zFl).sum : Int) ≤ l - a.length
      · rw [if_pos hq, if_pos (by omega)]
        simp only [Option.bind_some]
        rw [show l - (a.length : Int) - ((a.map zFl).sum : Nat) = l - ((a.length + (a.map zFl).sum : Nat) : Int) from by omega]
      · rw [if_neg hq, if_neg (by omega)]; rfl
    · intro self i l y hy l0 l1
      have hi := (List.getElem?_eq_some_iff.1 hy).1
      have hb := ha.2 y (List.mem_of_getElem? hy)
      simp only [show ((i : Int) < (a.length : Int)) from by omega, decide_true, cond_true]
      have e : g_lszFile (y, l) = some (if (zFl y : Int) ≤ l then l - zFl y else -1, ()) := by
        show f_lszFile BIG _ = _
        rw [e_lszFile, wr (n := l - (y.1.size : Int)) (by omega) (by omega)]
        unfold zFl
        by_cases c1 : l - (y.1.size : Int) < 0
        · rw [decide_eq_true c1, if_neg (by omega)]; rfl
        · rw [decide_eq_false c1, cond_false, wr (n := l - (y.1.size : Int) - (y.2.1.size : Int)) (by omega) (by omega)]
          by_cases c2 : l - (y.1.size : Int) - (y.2.1.size : Int) < 0
          · rw [decide_eq_true c2, if_neg (by omega)]; rfl
          · rw [decide_eq_false c2, if_pos (by omega), cond_false, show l - (y.1.size : Int) - (y.2.1.size : Int) = l - ((y.1.size + y.2.1.size : Nat) : Int) from by omega]
      rw [bnd_nat hi, hy, Option.bind_some, e, Option.bind_some]
      by_cases c : (zFl y : Int) ≤ l
      · rw [if_pos c, if_pos c, decide_eq_false (by omega), cond_false, wr1 (by omega)]
      · rw [if_neg c, if_neg c]; rfl
    · intro self l; simp
  · rw [decide_eq_true (by omega), cond_true, if_neg (by omega)]
theorem sz_Disk (a : List Fl) (l : Int) (h0 : 0 ≤ l) (h1 : l ≤ 1048576) (ha : a.length ≤ maxLen ∧ ∀ y, y ∈ a → y.1.size ≤ maxLen ∧ y.2.1.size ≤ maxLen) : g_lszDisk (a, l) = some (if ((zFS a : Nat) : Int) ≤ l then l - (zFS a : Nat) else -1, ()) := by
  show f_lszDisk BIG _ = _
  rw [e_lszDisk, sz_FileS a l h0 h1 ha, Option.bind_some]
  by_cases c : ((zFS a : Nat) : Int) ≤ l
  · rw [if_pos c, decide_eq_false (by omega), cond_false]
  · rw [if_neg c]; rfl
theorem fM_all {S α : Type} (p : α → Bool) (f : S → α → S) : ∀ (l : List α) (s : S), fM (fun s y => if p y = true then some (f s y) else none) s l = if l.all p = true then some (l.foldl f s) else none
  | [], s => by simp [fM]
  | y :: l, s => by
    rw [fM]
    cases hp : p y with
    | false => simp [hp]
    | true => simp only [if_true, Option.bind_some, fM_all p f l, List.all_cons, hp, Bool.true_and, List.foldl_cons]
/-- A head that is right, and what is known of it. -/
structure HdF (x0 : Int) (x1 : List Int) (x2 : List Ed) (x3 : List (List Int)) (x4 : List Int) (x14 : List Sd) : Prop where
  n : 1 ≤ x0 ∧ x0 ≤ 12
  k : 1 ≤ x3.length ∧ x3.length ≤ 3
  nums : x4.length = x3.length
  own : (x1.length : Int) = x0
  cuts : eOk x0 x2 = true
  said : x14.length ≤ 80
  o1 : ∀ i, i < x1.length → 1 ≤ x1.getD i 0 ∧ x1.getD i 0 ≤ x3.length
  o3 : ∀ i, i < x3.length → lbOk x0 (x3.getD i []) = true ∧ 0 ≤ x4.getD i 0 ∧ x4.getD i 0 ≤ 99991
section
variable {x0 : Int} {x1 : List Int} {x2 : List Ed} {x3 : List (List Int)} {x4 : List Int} {x14 : List Sd}
theorem HdF.at (h : HdF x0 x1 x2 x3 x4 x14) {v : Int} (h1 : 0 ≤ v) (h2 : v ≤ x0 - 1) : v < x1.length ∧ x1[v.toNat]? = some (x1.getD v.toNat 0) ∧ 1 ≤ x1.getD v.toNat 0 ∧ x1.getD v.toNat 0 ≤ x3.length := by
  have ho := h.own
  have := h.o1 v.toNat (by omega)
  exact ⟨by omega, getD_at (by omega), this.1, this.2⟩
end
abbrev ShT := Int × Int × List (Int × Int × Int × Bool) × Int × Bool × List (Int × Int) × List Int
abbrev Pk := Int × Int × ByteArray
abbrev Cl7 := Int × Int × Int × Int × Int × Int × Int
def z_DiskS (a : List (List Fl)) : Nat := a.length + (a.map zFS).sum
abbrev B_DiskS (a : List (List Fl)) : Prop := a.length ≤ maxLen ∧ ∀ y, y ∈ a → y.length ≤ maxLen ∧ ∀ z, z ∈ y → z.1.size ≤ maxLen ∧ z.2.1.size ≤ maxLen
def zPk (y : Pk) : Nat := y.2.2.size
def z_PacketS (a : List Pk) : Nat := a.length + (a.map zPk).sum
abbrev B_PacketS (a : List Pk) : Prop := a.length ≤ maxLen ∧ ∀ y, y ∈ a → y.2.2.size ≤ maxLen
theorem sum_mem {α : Type} (z : α → Nat) {a : List α} {y : α} (h : y ∈ a) : z y ≤ (a.map z).sum := by
  induction a with
  | nil => cases h
  | cons x a ih =>
    rw [List.map_cons, List.sum_cons]
    rcases List.mem_cons.1 h with rfl | h
    · omega
    · have := ih h; omega
theorem sz_DiskS (a : List (List Fl)) (l : Int) (h0 : 0 ≤ l) (h1 : l ≤ 1048576) (ha : B_DiskS a) : g_lszDiskS (a, l) = some (if ((z_DiskS a : Nat) : Int) ≤ l then l - (z_DiskS a : Nat) else -1, ()) := by
  have hm : maxLen = 9223372036854775807 := by decide
  have h2 := ha.1
  show f_lszDiskS BIG _ = _
  rw [e_lszDiskS, wr (by omega) (by omega)]
  unfold z_DiskS
  by_cases h : ((a.length : Nat) : Int) ≤ l
  · rw [decide_eq_false (by omega), cond_false, szLoop a zFS (-1) (l - a.length) (by omega) (by omega) (by omega)]
    · by_cases hq : ((a.map zFS).sum : Int) ≤ l - a.length
      · rw [if_pos hq, if_pos (by omega)]
        simp only [Option.bind_some]
        rw [show l - (a.length : Int) - ((a.map zFS).sum : Nat) = l - ((a.length + (a.map zFS).sum : Nat) : Int) from by omega]
      · rw [if_neg hq, if_neg (by omega)]; rfl
    · intro self i l y hy l0 l1
      have hi := (List.getElem?_eq_some_iff.1 hy).1
      have hb := ha.2 y (List.mem_of_getElem? hy)
      simp only [show ((i : Int) < (a.length : Int)) from by omega, decide_true, cond_true]
      have e := sz_Disk y l l0 l1 hb
      rw [bnd_nat hi, hy, Option.bind_some, e, Option.bind_some]
      by_cases c : (zFS y : Int) ≤ l
      · rw [if_pos c, if_pos c, decide_eq_false (by omega), cond_false, wr1 (by omega)]
      · rw [if_neg c, if_neg c]; rfl
    · intro self l; simp
  · rw [decide_eq_true (by omega), cond_true, if_neg (by omega)]
theorem sz_PacketS (a : List Pk) (l : Int) (h0 : 0 ≤ l) (h1 : l ≤ 1048576) (ha : B_PacketS a) : g_lszPacketS (a, l) = some (if ((z_PacketS a : Nat) : Int) ≤ l then l - (z_PacketS a : Nat) else -1, ()) := by
  have hm : maxLen = 9223372036854775807 := by decide
  have h2 := ha.1
  show f_lszPacketS BIG _ = _
  rw [e_lszPacketS, wr (by omega) (by omega)]
  unfold z_PacketS
  by_cases h : ((a.length : Nat) : Int) ≤ l
  · rw [decide_eq_false (by omega), cond_false, szLoop a zPk (-1) (l - a.length) (by omega) (by omega) (by omega)]
    · by_cases hq : ((a.map zPk).sum : Int) ≤ l - a.length
      · rw [if_pos hq, if_pos (by omega)]
        simp only [Option.bind_some]
        rw [show l - (a.length : Int) - ((a.map zPk).sum : Nat) = l - ((a.length + (a.map zPk).sum : Nat) : Int) from by omega]
      · rw [if_neg hq, if_neg (by omega)]; rfl
    · intro self i l y hy l0 l1
      have hi := (List.getElem?_eq_some_iff.1 hy).1
      have hb := ha.2 y (List.mem_of_getElem? hy)
      simp only [show ((i : Int) < (a.length : Int)) from by omega, decide_true, cond_true]
      have e : g_lszPacket (y, l) = some (if (zPk y : Int) ≤ l then l - zPk y else -1, ()) := by
        show f_lszPacket BIG _ = _
        rw [e_lszPacket, wr (n := l - (y.2.2.size : Int)) (by omega) (by omega)]
        unfold zPk
        by_cases c1 : l - (y.2.2.size : Int) < 0
        · rw [decide_eq_true c1, if_neg (by omega)]; rfl
        · rw [decide_eq_false c1, cond_false, if_pos (by omega)]
      rw [bnd_nat hi, hy, Option.bind_some, e, Option.bind_some]
      by_cases c : (zPk y : Int) ≤ l
      · rw [if_pos c, if_pos c, decide_eq_false (by omega), cond_false, wr1 (by omega)]
      · rw [if_neg c, if_neg c]; rfl
    · intro self l; simp
  · rw [decide_eq_true (by omega), cond_true, if_neg (by omega)]
theorem sz_CallS (a : List Cl7) (l : Int) (h0 : 0 ≤ l) (h1 : l ≤ 1048576) (ha : a.length ≤ maxLen) : g_lszCallS (a, l) = some (if ((a.length : Nat) : Int) ≤ l then l - (a.length : Nat) else -1, ()) := by
  have hm : maxLen = 9223372036854775807 := by decide
  show f_lszCallS BIG _ = _
  rw [e_lszCallS, wr (by omega) (by omega)]
  by_cases h : ((a.length : Nat) : Int) ≤ l
  · rw [if_pos h, decide_eq_false (by omega), cond_false]
  · rw [if_neg h, decide_eq_true (by omega), cond_true]
theorem to_DiskS (a : List (List Fl)) (h : z_DiskS a ≤ 1048576) : g_ltoDiskS a = some (a, ()) := by
  have hm : maxLen = 9223372036854775807 := by decide
  have h1 : a.length ≤ 1048576 := by unfold z_DiskS at h; omega
  show f_ltoDiskS BIG _ = _
  rw [e_ltoDiskS, decide_eq_true (by omega), cond_true, decide_eq_true (by simp; omega), cond_true]
  simp only [Int.toNat_natCast]
  rw [cpLoop a (by omega)]
  · rfl
  · intro self out i y hl hy
    have hi := (List.getElem?_eq_some_iff.1 hy).1
    simp only [show ((i : Int) < (a.length : Int)) from by omega, decide_true, cond_true]
    have hz := sum_mem zFS (List.mem_of_getElem? hy)
    have hz2 : y.length ≤ zFS y := Nat.le_add_right _ _
    unfold z_DiskS at h
    have e := to_Disk y (by omega)
    rw [bnd_nat hi, hy, Option.bind_some, e, Option.bind_some]
    rw [bnd_nat (by omega), List.getElem?_eq_getElem (by omega), Option.bind_some, wr1 (by omega)]
  · intro self out hl
    simp
theorem eq_DiskS (a : List (List Fl)) (h : z_DiskS a ≤ 1048576) : g_leqDiskS (a, a) = some (true, ()) := by
  have hm : maxLen = 9223372036854775807 := by decide
  have h1 : a.length ≤ 1048576 := by unfold z_DiskS at h; omega
  show f_leqDiskS BIG _ = _
  rw [e_leqDiskS, decide_eq_true rfl, Bool.not_true, cond_false, allLoop a (by omega) (fun _ => true) false]
  · rw [if_pos (fun _ _ => rfl)]; rfl
  · intro self i y hy
    have hi := (List.getElem?_eq_some_iff.1 hy).1
    have hz := sum_mem zFS (List.mem_of_getElem? hy)
    have hz2 : y.length ≤ zFS y := Nat.le_add_right _ _
    unfold z_DiskS at h
    have e := eq_Disk y (by omega)
    simp only [show ((i : Int) < (a.length : Int)) from by omega, decide_true, cond_true]
    rw [bnd_nat hi, hy, Option.bind_some, bnd_nat hi, hy, Option.bind_some, e, Option.bind_some, wr1 (by omega)]
    rfl
  · intro self; simp
theorem to_PacketS (a : List Pk) (h : a.length ≤ 1048576) : g_ltoPacketS a = some (a, ()) := by
  have hm : maxLen = 9223372036854775807 := by decide
  have h1 : a.length ≤ 1048576 := by omega
  show f_ltoPacketS BIG _ = _
  rw [e_ltoPacketS, decide_eq_true (by omega), cond_true, decide_eq_true (by simp; omega), cond_true]
  simp only [Int.toNat_natCast]
  rw [cpLoop a (by omega)]
  · rfl
  · intro self out i y hl hy
    have hi := (List.getElem?_eq_some_iff.1 hy).1
    simp only [show ((i : Int) < (a.length : Int)) from by omega, decide_true, cond_true]
    have e : g_ltoPacket y = some (y, ()) := e_ltoPacket BIG y
    rw [bnd_nat hi, hy, Option.bind_some, e, Option.bind_some]
    rw [bnd_nat (by omega), List.getElem?_eq_getElem (by omega), Option.bind_some, wr1 (by omega)]
  · intro self out hl
    simp
theorem eq_PacketS (a : List Pk) (h : a.length ≤ 1048576) : g_leqPacketS (a, a) = some (true, ()) := by
  have hm : maxLen = 9223372036854775807 := by decide
  have h1 : a.length ≤ 1048576 := by omega
  show f_leqPacketS BIG _ = _
  rw [e_leqPacketS, decide_eq_true rfl, Bool.not_true, cond_false, allLoop a (by omega) (fun _ => true) false]
  · rw [if_pos (fun _ _ => rfl)]; rfl
  · intro self i y hy
    have hi := (List.getElem?_eq_some_iff.1 hy).1
    have e : g_leqPacket (y, y) = some (true, ()) := by
      show f_leqPacket BIG _ = _
      rw [e_leqPacket]; simp
    simp only [show ((i : Int) < (a.length : Int)) from by omega, decide_true, cond_true]
    rw [bnd_nat hi, hy, Option.bind_some, bnd_nat hi, hy, Option.bind_some, e, Option.bind_some, wr1 (by omega)]
    rfl
  · intro self; simp
theorem to_CallS (a : List Cl7) (h : a.length ≤ 1048576) : g_ltoCallS a = some (a, ()) := by
  have hm : maxLen = 9223372036854775807 := by decide
  have h1 : a.length ≤ 1048576 := by omega
  show f_ltoCallS BIG _ = _
  rw [e_ltoCallS, decide_eq_true (by omega), cond_true, decide_eq_true (by simp; omega), cond_true]
  simp only [Int.toNat_natCast]
  rw [cpLoop a (by omega)]
  · rfl
  · intro self out i y hl hy
    have hi := (List.getElem?_eq_some_iff.1 hy).1
    simp only [show ((i : Int) < (a.length : Int)) from by omega, decide_true, cond_true]
    have e : g_ltoCall y = some (y, ()) := by
      show f_ltoCall BIG _ = _
      rw [e_ltoCall, to_Ask]; rfl
    rw [bnd_nat hi, hy, Option.bind_some, e, Option.bind_some]
    rw [bnd_nat (by omega), List.getElem?_eq_getElem (by omega), Option.bind_some, wr1 (by omega)]
  · intro self out hl
    simp
theorem eq_CallS (a : List Cl7) (h : a.length ≤ 1048576) : g_leqCallS (a, a) = some (true, ()) := by
  have hm : maxLen = 9223372036854775807 := by decide
  have h1 : a.length ≤ 1048576 := by omega
  show f_leqCallS BIG _ = _
  rw [e_leqCallS, decide_eq_true rfl, Bool.not_true, cond_false, allLoop a (by omega) (fun _ => true) false]
  · rw [if_pos (fun _ _ => rfl)]; rfl
  · intro self i y hy
    have hi := (List.getElem?_eq_some_iff.1 hy).1
    have e : g_leqCall (y, y) = some (true, ()) := by
      show f_leqCall BIG _ = _
      rw [e_leqCall, eq_Ask]; simp
    simp only [show ((i : Int) < (a.length : Int)) from by omega, decide_true, cond_true]
    rw [bnd_nat hi, hy, Option.bind_some, bnd_nat hi, hy, Option.bind_some, e, Option.bind_some, wr1 (by omega)]
    rfl
  · intro self; simp
theorem sz_World (n x0 : Int) (x1 : List Int) (x2 : List Ed) (x3 : List (List Int)) (x4 : List Int) (x5 x6 x7 x8 x9 x10 x11 : Int) (x12 : List Ed) (x13 : Int) (x14 : List Sd) (ss : List ShT) (ds : List (List Fl)) (us : List Bool) (ps : List Pk) (cs : List Cl7) (rs : List Rc) (l : Int) (h0 : 0 ≤ l) (h1 : l ≤ 1048576) (q1 : x1.length ≤ maxLen) (q2 : x2.length ≤ maxLen) (q3 : B_IntSS x3) (q4 : x4.length ≤ maxLen) (q12 : x12.length ≤ maxLen) (q14 : x14.length ≤ maxLen) (qs : B_ShardS ss) (qd : B_DiskS ds) (qu : us.length ≤ maxLen) (qp : B_PacketS ps) (qc : cs.length ≤ maxLen) (qr : B_RecS rs) : g_lszWorld ((n, x0, x1, x2, x3, x4, x5, x6, x7, x8, x9, x10, x11, x12, x13, x14, ss, ds, us, ps, cs, rs), l) = some (if ((((x1.length + x2.length + z_IntSS x3 + x4.length + x12.length + x14.length) + z_ShardS ss + z_DiskS ds + us.length + z_PacketS ps + cs.length + z_RecS rs) : Nat) : Int) ≤ l then l - (((x1.length + x2.length + z_IntSS x3 + x4.length + x12.length + x14.length) + z_ShardS ss + z_DiskS ds + us.length + z_PacketS ps + cs.length + z_RecS rs) : Nat) else -1, ()) := by
  show f_lszWorld BIG _ = _
  rw [e_lszWorld]
  dsimp only
  have s0 := sz_Head x0 x1 x2 x3 x4 x5 x6 x7 x8 x9 x10 x11 x12 x13 x14 (l) (by omega) (by omega) q1 q2 q3 q4 q12 q14
  by_cases c0 : (((x1.length + x2.length + z_IntSS x3 + x4.length + x12.length + x14.length) : Nat) : Int) ≤ l
  case neg =>
    rw [if_neg c0] at s0
    rw [s0, Option.bind_some, if_neg (by omega)]
    all_goals rfl
  rw [if_pos c0] at s0
  rw [s0, Option.bind_some]
  dsimp only
  rw [decide_eq_false (by omega), cond_false]
  have s1 := sz_ShardS ss (l - ((x1.length + x2.length + z_IntSS x3 + x4.length + x12.length + x14.length) : Nat)) (by omega) (by omega) qs
  by_cases c1 : ((z_ShardS ss : Nat) : Int) ≤ l - ((x1.length + x2.length + z_IntSS x3 + x4.length + x12.length + x14.length) : Nat)
  case neg =>
    rw [if_neg c1] at s1
    rw [s1, Option.bind_some, if_neg (by omega)]
    all_goals rfl
  rw [if_pos c1] at s1
  rw [s1, Option.bind_some]
  dsimp only
  rw [decide_eq_false (by omega), cond_false]
  have s2 := sz_DiskS ds (l - ((x1.length + x2.length + z_IntSS x3 + x4.length + x12.length + x14.length) : Nat) - (z_ShardS ss : Nat)) (by omega) (by omega) qd
  by_cases c2 : ((z_DiskS ds : Nat) : Int) ≤ l - ((x1.length + x2.length + z_IntSS x3 + x4.length + x12.length + x14.length) : Nat) - (z_ShardS ss : Nat)
  case neg =>
    rw [if_neg c2] at s2
    rw [s2, Option.bind_some, if_neg (by omega)]
    all_goals rfl
  rw [if_pos c2] at s2
  rw [s2, Option.bind_some]
  dsimp only
  rw [decide_eq_false (by omega), cond_false]
  have s3 := sz_BoolS us (l - ((x1.length + x2.length + z_IntSS x3 + x4.length + x12.length + x14.length) : Nat) - (z_ShardS ss : Nat) - (z_DiskS ds : Nat)) (by omega) (by omega) qu
  by_cases c3 : ((us.length : Nat) : Int) ≤ l - ((x1.length + x2.length + z_IntSS x3 + x4.length + x12.length + x14.length) : Nat) - (z_ShardS ss : Nat) - (z_DiskS ds : Nat)
  case neg =>
    rw [if_neg c3] at s3
    rw [s3, Option.bind_some, if_neg (by omega)]
    all_goals rfl
  rw [if_pos c3] at s3
  rw [s3, Option.bind_some]
  dsimp only
  rw [decide_eq_false (by omega), cond_false]
  have s4 := sz_PacketS ps (l - ((x1.length + x2.length + z_IntSS x3 + x4.length + x12.length + x14.length) : Nat) - (z_ShardS ss : Nat) - (z_DiskS ds : Nat) - (us.length : Nat)) (by omega) (by omega) qp
  by_cases c4 : ((z_PacketS ps : Nat) : Int) ≤ l - ((x1.length + x2.length + z_IntSS x3 + x4.length + x12.length + x14.length) : Nat) - (z_ShardS ss : Nat) - (z_DiskS ds : Nat) - (us.length : Nat)
  case neg =>
    rw [if_neg c4] at s4
    rw [s4, Option.bind_some, if_neg (by omega)]
    all_goals rfl
  rw [if_pos c4] at s4
  rw [s4, Option.bind_some]
  dsimp only
  rw [decide_eq_false (by omega), cond_false]
  have s5 := sz_CallS cs (l - ((x1.length + x2.length + z_IntSS x3 + x4.length + x12.length + x14.length) : Nat) - (z_ShardS ss : Nat) - (z_DiskS ds : Nat) - (us.length : Nat) - (z_PacketS ps : Nat)) (by omega) (by omega) qc
  by_cases c5 : ((cs.length : Nat) : Int) ≤ l - ((x1.length + x2.length + z_IntSS x3 + x4.length + x12.length + x14.length) : Nat) - (z_ShardS ss : Nat) - (z_DiskS ds : Nat) - (us.length : Nat) - (z_PacketS ps : Nat)
  case neg =>
    rw [if_neg c5] at s5
    rw [s5, Option.bind_some, if_neg (by omega)]
    all_goals rfl
  rw [if_pos c5] at s5
  rw [s5, Option.bind_some]
  dsimp only
  rw [decide_eq_false (by omega), cond_false]
  have s6 := sz_RecS rs (l - ((x1.length + x2.length + z_IntSS x3 + x4.length + x12.length + x14.length) : Nat) - (z_ShardS ss : Nat) - (z_DiskS ds : Nat) - (us.length : Nat) - (z_PacketS ps : Nat) - (cs.length : Nat)) (by omega) (by omega) qr
  by_cases c6 : ((z_RecS rs : Nat) : Int) ≤ l - ((x1.length + x2.length + z_IntSS x3 + x4.length + x12.length + x14.length) : Nat) - (z_ShardS ss : Nat) - (z_DiskS ds : Nat) - (us.length : Nat) - (z_PacketS ps : Nat) - (cs.length : Nat)
  case neg =>
    rw [if_neg c6] at s6
    rw [s6, Option.bind_some, if_neg (by omega)]
    all_goals rfl
  rw [if_pos c6] at s6
  rw [s6, Option.bind_some]
  dsimp only
  rw [decide_eq_false (by omega), cond_false]
  rw [if_pos (by omega)]
  all_goals first | rfl | (congr 2; done) | (congr 2; omega)
theorem ps_le (ps : List Pk) : ps.length ≤ z_PacketS ps := Nat.le_add_right _ _
theorem to_World (n x0 : Int) (x1 : List Int) (x2 : List Ed) (x3 : List (List Int)) (x4 : List Int) (x5 x6 x7 x8 x9 x10 x11 : Int) (x12 : List Ed) (x13 : Int) (x14 : List Sd) (ss : List ShT) (ds : List (List Fl)) (us : List Bool) (ps : List Pk) (cs : List Cl7) (rs : List Rc) (h : ((x1.length + x2.length + z_IntSS x3 + x4.length + x12.length + x14.length) + z_ShardS ss + z_DiskS ds + us.length + z_PacketS ps + cs.length + z_RecS rs) ≤ 1048576) : g_ltoWorld (n, x0, x1, x2, x3, x4, x5, x6, x7, x8, x9, x10, x11, x12, x13, x14, ss, ds, us, ps, cs, rs) = some ((n, x0, x1, x2, x3, x4, x5, x6, x7, x8, x9, x10, x11, x12, x13, x14, ss, ds, us, ps, cs, rs), ()) := by
  have hp := ps_le ps
  show f_ltoWorld BIG _ = _
  rw [e_ltoWorld]
  dsimp only
  rw [to_Head x0 x1 x2 x3 x4 x5 x6 x7 x8 x9 x10 x11 x12 x13 x14 (by omega), Option.bind_some, to_ShardS ss (by omega), Option.bind_some, to_DiskS ds (by omega), Option.bind_some, to_BoolS us (by omega), Option.bind_some, to_PacketS ps (by omega), Option.bind_some, to_CallS cs (by omega), Option.bind_some, to_RecS rs (by omega), Option.bind_some]
theorem eq_World (n x0 : Int) (x1 : List Int) (x2 : List Ed) (x3 : List (List Int)) (x4 : List Int) (x5 x6 x7 x8 x9 x10 x11 : Int) (x12 : List Ed) (x13 : Int) (x14 : List Sd) (ss : List ShT) (ds : List (List Fl)) (us : List Bool) (ps : List Pk) (cs : List Cl7) (rs : List Rc) (h : ((x1.length + x2.length + z_IntSS x3 + x4.length + x12.length + x14.length) + z_ShardS ss + z_DiskS ds + us.length + z_PacketS ps + cs.length + z_RecS rs) ≤ 1048576) : g_leqWorld ((n, x0, x1, x2, x3, x4, x5, x6, x7, x8, x9, x10, x11, x12, x13, x14, ss, ds, us, ps, cs, rs), (n, x0, x1, x2, x3, x4, x5, x6, x7, x8, x9, x10, x11, x12, x13, x14, ss, ds, us, ps, cs, rs)) = some (true, ()) := by
  have hp := ps_le ps
  show f_leqWorld BIG _ = _
  rw [e_leqWorld]
  dsimp only
  rw [decide_eq_true rfl, Bool.not_true, cond_false, eq_Head x0 x1 x2 x3 x4 x5 x6 x7 x8 x9 x10 x11 x12 x13 x14 (by omega), Option.bind_some, Bool.not_true, cond_false, eq_ShardS ss (by omega), Option.bind_some, Bool.not_true, cond_false, eq_DiskS ds (by omega), Option.bind_some, Bool.not_true, cond_false, eq_BoolS us us (by omega), Option.bind_some, decide_eq_true rfl, Bool.not_true, cond_false, eq_PacketS ps (by omega), Option.bind_some, Bool.not_true, cond_false, eq_CallS cs (by omega), Option.bind_some, Bool.not_true, cond_false, eq_RecS rs (by omega), Option.bind_some, Bool.not_true, cond_false]
theorem zip_any {α : Type} {l : List α} {i : Nat} {p : α × Nat} (h : l.zipIdx[i]? = some p) : l[i]? = some p.1 ∧ p.2 = i := by
  rw [List.getElem?_zipIdx] at h
  cases hl : l[i]? with
  | none => rw [hl] at h; simp at h
  | some x => rw [hl] at h; simp at h; subst h; simp
def ow (s : ShT) : List Ed := s.2.2.1.map fun x => (x.1, x.2.1)
theorem ow_len (s : ShT) : (ow s).length = s.2.2.1.length := by simp [ow]
theorem w_iOwned (y : ShT) (h : y.2.2.1.length ≤ 1048576) : g_iOwned y = some (ow y, ()) := by
  obtain ⟨a, b, c, d, e, f, g⟩ := y
  exact h_iOwned a b c d e f g h
theorem w_sOwned (y : ShT) (h : y.2.2.1.length ≤ 1048576) : g_sOwned y = some (ow y, ()) := by
  obtain ⟨a, b, c, d, e, f, g⟩ := y
  exact h_sOwned a b c d e f g h
def onP (own : List Int) (p : ShT × Nat) : Bool := (ow p.1).all (insP own ((p.2 : Int) + 1))
def onB (aop : Int) (own : List Int) (cuts : List Ed) (ss : List ShT) : Bool := (decide (aop = 4) || ss.zipIdx.all (onP own)) && (resW (fM stE [] (cuts ++ (ss.map ow).flatten))).2
def onI (own : List Int) (ss : List ShT) (i : Nat) : Bool := match ss[i]? with
  | some y => onP own (y, i)
  | none => true
theorem onI_all (own : List Int) (ss : List ShT) : (∀ i, i < ss.length → onI own ss i = true) ↔ ss.zipIdx.all (onP own) = true := by
  rw [List.all_eq_true]
  constructor
  · intro h p hp
    obtain ⟨i, hi, he⟩ := List.getElem_of_mem hp
    have hz : ss.zipIdx[i]? = some p := by rw [List.getElem?_eq_getElem hi, he]
    obtain ⟨h1, h2⟩ := zip_any hz
    rw [List.length_zipIdx] at hi
    have := h i hi
    unfold onI at this
    rw [h1] at this
    obtain ⟨y, j⟩ := p
    simp only at h2 this
    subst h2
    exact this
  · intro h i hi
    have hz : i < ss.zipIdx.length := by rw [List.length_zipIdx]; exact hi
    have hm := List.getElem_mem hz
    have hq := List.getElem?_eq_getElem hz
    generalize ss.zipIdx[i] = p at hm hq
    obtain ⟨h1, h2⟩ := zip_any hq
    have := h _ hm
    unfold onI
    rw [h1]
    obtain ⟨y, j⟩ := p
    simp only at h2 ⊢
    subst h2
    exact this
theorem filter_len {α : Type} (p : α → Bool) (l : List α) : decide (((l.filter p).length : Int) = (l.length : Int)) = l.all p := by
  rw [Bool.eq_iff_iff, decide_eq_true_eq, List.all_eq_true]
  constructor
  · intro h x hx
    have h1 : (l.filter p).length = l.length := by omega
    exact List.length_filter_eq_length_iff.1 h1 x hx
  · intro h
    rw [List.length_filter_eq_length_iff.2 h]
theorem w_iwebs (n x0 : Int) (x1 : List Int) (x2 : List Ed) (x3 : List (List Int)) (x4 : List Int) (x5 x6 x7 x8 x9 x10 x11 : Int) (x12 : List Ed) (x13 : Int) (x14 : List Sd) (ss : List ShT) (ds : List (List Fl)) (us : List Bool) (ps : List Pk) (cs : List Cl7) (rs : List Rc) (hs : ss.length ≤ 1048576) (hy : ∀ y, y ∈ ss → y.2.2.1.length ≤ 1048576) : g_iwebs (n, x0, x1, x2, x3, x4, x5, x6, x7, x8, x9, x10, x11, x12, x13, x14, ss, ds, us, ps, cs, rs) = some (ss.map ow, ()) := by
  have hm : maxLen = 9223372036854775807 := by decide
  show f_iwebs BIG _ = _
  rw [e_iwebs]
  dsimp only
  rw [foldLoop ss (by omega) (fun i (s : List (List Ed)) => s.length = i) (fun s y => s ++ [ow y]) id rfl (fun i s y _ h => by simp only [List.length_append, List.length_cons, List.length_nil]; omega) (fun self s i y hyy hs' => ?_) (fun self s _ => by simp)]
  · have hf : ∀ (L : List ShT) (s : List (List Ed)), L.foldl (fun s y => s ++ [ow y]) s = s ++ L.map ow := by
      intro L
      induction L with
      | nil => intro s; simp
      | cons y L ih => intro s; rw [List.foldl_cons, ih]; simp
    rw [hf]; rfl
  · have hi := (List.getElem?_eq_some_iff.1 hyy).1
    simp only [show ((i : Int) < (ss.length : Int)) from by omega, decide_true, cond_true]
    rw [bnd_nat hi, hyy, Option.bind_some, w_iOwned y (hy y (List.mem_of_getElem? hyy)), Option.bind_some, decide_eq_true (by simp only [List.length_cons, List.length_nil]; omega), cond_true, wr1 (by omega)]
section
variable (n x0 : Int) (x1 : List Int) (x2 : List Ed) (x3 : List (List Int)) (x4 : List Int) (x5 x6 x7 x8 x9 x10 x11 : Int) (x12 : List Ed) (x13 : Int) (x14 : List Sd) (ss : List ShT) (ds : List (List Fl)) (us : List Bool) (ps : List Pk) (cs : List Cl7) (rs : List Rc) (h1 : x1.length ≤ 1048576) (hs : ss.length ≤ 1048576) (hy : ∀ y, y ∈ ss → y.2.2.1.length ≤ 1048576) (ht : x2.length + (ss.map ow).flatten.length ≤ 1048576)
include h1 hs hy ht
theorem w_iOnce : g_iOnce (n, x0, x1, x2, x3, x4, x5, x6, x7, x8, x9, x10, x11, x12, x13, x14, ss, ds, us, ps, cs, rs) = some (onB x6 x1 x2 ss, ()) := by
  have hm : maxLen = 9223372036854775807 := by decide
  show f_iOnce BIG _ = _
  rw [e_iOnce]
  dsimp only
  rw [w_iwebs n x0 x1 x2 x3 x4 x5 x6 x7 x8 x9 x10 x11 x12 x13 x14 ss ds us ps cs rs hs hy, Option.bind_some, h_iWholeEdges _ _ (by simpa using hs) ht, Option.bind_some]
  unfold onB
  cases (resW (fM stE [] (x2 ++ (ss.map ow).flatten))).2 with
  | false => simp
  | true =>
    simp only [Bool.not_true, cond_false, Bool.and_true]
    by_cases h4 : x6 = 4
    · rw [decide_eq_true h4]; rfl
    · rw [decide_eq_false h4, cond_false, Bool.false_or, allLoop ss (by omega) (onI x1 ss) false (fun self i y hyy => ?_) (fun self => by simp)]
      · by_cases ha : ss.zipIdx.all (onP x1) = true
        · rw [if_pos ((onI_all x1 ss).2 ha), ha]; rfl
        · rw [if_neg (fun h => ha ((onI_all x1 ss).1 h))]
          rw [Bool.not_eq_true] at ha
          rw [ha]; rfl
      · have hi := (List.getElem?_eq_some_iff.1 hyy).1
        have hyl := hy y (List.mem_of_getElem? hyy)
        have hol := ow_len y
        have he : onI x1 ss i = (ow y).all (insP x1 ((i : Int) + 1)) := by unfold onI; rw [hyy]; rfl
        simp only [show ((i : Int) < (ss.length : Int)) from by omega, decide_true, cond_true]
        rw [bnd_nat hi, hyy, Option.bind_some, w_iOwned y hyl, Option.bind_some, wr1 (by omega), he]
        rw [allLoop (ow y) (by omega) (fun j => match (ow y)[j]? with | some e => insP x1 ((i : Int) + 1) e | none => true) false (fun self j e hee => ?_) (fun self => by simp)]
        · by_cases ha : (ow y).all (insP x1 ((i : Int) + 1)) = true
          · rw [if_pos, if_pos ha]
            · rfl
            · intro j hj
              rw [List.getElem?_eq_getElem hj]
              exact List.all_eq_true.1 ha _ (List.getElem_mem hj)
          · rw [if_neg, if_neg ha]
            · rfl
            · intro h
              apply ha
              rw [List.all_eq_true]
              intro e he
              obtain ⟨j, hj, rfl⟩ := List.getElem_of_mem he
              have := h j hj
              rwa [List.getElem?_eq_getElem hj] at this
        · have hj := (List.getElem?_eq_some_iff.1 hee).1
          simp only [show ((j : Int) < ((ow y).length : Int)) from by omega, decide_true, cond_true]
          rw [bnd_nat hj, hee, Option.bind_some, h_iowns x1 h1, h_iowns x1 h1, wr1 (by omega)]
          have hq : insP x1 ((i : Int) + 1) e = ((decide (0 ≤ e.1) && decide (e.1 < (x1.length : Int)) && decide (x1[e.1.toNat]? = some ((i + 1 : Nat) : Int))) && (decide (0 ≤ e.2) && decide (e.2 < (x1.length : Int)) && decide (x1[e.2.toNat]? = some ((i + 1 : Nat) : Int)))) := rfl
          simp only [hee, hq]
          generalize (decide (0 ≤ e.1) && decide (e.1 < (x1.length : Int)) && decide (x1[e.1.toNat]? = some ((i + 1 : Nat) : Int))) = a
          generalize (decide (0 ≤ e.2) && decide (e.2 < (x1.length : Int)) && decide (x1[e.2.toNat]? = some ((i + 1 : Nat) : Int))) = b
          cases a <;> cases b <;> rfl
theorem w_sOnce : g_sOnce (n, x0, x1, x2, x3, x4, x5, x6, x7, x8, x9, x10, x11, x12, x13, x14, ss, ds, us, ps, cs, rs) = some (onB x6 x1 x2 ss, ()) := by
  have hm : maxLen = 9223372036854775807 := by decide
  show f_sOnce BIG _ = _
  rw [e_sOnce]
  dsimp only
  have hz : ss.zipIdx.length = ss.length := List.length_zipIdx
  rw [exitLoop ss.zipIdx (by omega) (fun i (s : List (List Ed)) => s.length = i) (fun s p => if (decide (x6 = 4) || onP x1 p) = true then some (s ++ [ow p.1]) else none) false rfl (fun i s y s' hyy hs' he => by
    split at he
    · cases he; simp only [List.length_append, List.length_cons, List.length_nil]; omega
    · cases he) (fun self s i p hp hs' => ?_) (fun self s hs' => by simp only [hz, show ¬ ((ss.length : Int) < (ss.length : Int)) from by omega, decide_false, cond_false])]
  · rw [fM_all]
    unfold onB
    have hall : (ss.zipIdx.all fun p => decide (x6 = 4) || onP x1 p) = (decide (x6 = 4) || ss.zipIdx.all (onP x1)) := by
      cases decide (x6 = 4) with
      | true => simp
      | false => simp
    rw [hall]
    cases (decide (x6 = 4) || ss.zipIdx.all (onP x1)) with
    | false => rfl
    | true =>
      have hf : ∀ (L : List (ShT × Nat)) (s : List (List Ed)), L.foldl (fun s p => s ++ [ow p.1]) s = s ++ L.map (fun p => ow p.1) := by
        intro L
        induction L with
        | nil => intro s; simp
        | cons y L ih => intro s; rw [List.foldl_cons, ih]; simp
      have hmap : ss.zipIdx.map (fun p => ow p.1) = ss.map ow := by
        have h9 : (ss.zipIdx.map Prod.fst).map ow = ss.map ow := by rw [List.zipIdx_map_fst]
        rw [← h9, List.map_map]; rfl
      simp only [if_true, Option.bind_some, hf, List.nil_append, hmap]
      rw [h_sWholeEdges _ _ (by simpa using hs) ht]
      simp
  · obtain ⟨hp1, hp2⟩ := zip_any hp
    have hi := (List.getElem?_eq_some_iff.1 hp1).1
    obtain ⟨y, v⟩ := p
    simp only at hp1 hp2
    subst hp2
    have hyl := hy y (List.mem_of_getElem? hp1)
    have hol := ow_len y
    simp only [show ((v : Int) < (ss.length : Int)) from by omega, decide_true, cond_true]
    rw [bnd_nat hi, hp1, Option.bind_some, w_sOwned y hyl, Option.bind_some, decide_eq_true (by simp only [List.length_cons, List.length_nil]; omega), cond_true, wr1 (by omega), h_sInside x1 (ow y) _ h1 (by omega)]
    simp only [Option.bind_some, filter_len, show ((v + 1 : Nat) : Int) = (v : Int) + 1 from rfl]
    cases hA : (ow y).all (insP x1 ((v : Int) + 1)) with
    | true =>
      have ho : onP x1 (y, v) = true := hA
      rw [if_pos (by rw [ho, Bool.or_true])]
      cases decide (x6 = 4) <;> rfl
    | false =>
      have ho : onP x1 (y, v) = false := hA
      cases h4 : decide (x6 = 4) with
      | true => rw [if_pos (by rfl)]; rfl
      | false => rw [if_neg (by rw [ho]; simp)]; rfl
end
theorem flat_len : ∀ ss : List ShT, (ss.map ow).flatten.length + ss.length ≤ z_ShardS ss
  | [] => by simp [z_ShardS]
  | y :: ss => by
    have ih := flat_len ss
    have ho := ow_len y
    unfold z_ShardS at ih ⊢
    simp only [List.map_cons, List.flatten_cons, List.length_append, List.length_cons, List.sum_cons]
    omega
theorem law_lFnExactOnce (n x0 : Int) (x1 : List Int) (x2 : List Ed) (x3 : List (List Int)) (x4 : List Int) (x5 x6 x7 x8 x9 x10 x11 : Int) (x12 : List Ed) (x13 : Int) (x14 : List Sd) (ss : List ShT) (ds : List (List Fl)) (us : List Bool) (ps : List Pk) (cs : List Cl7) (rs : List Rc) (q1 : x1.length ≤ maxLen) (q2 : x2.length ≤ maxLen) (q3 : B_IntSS x3) (q4 : x4.length ≤ maxLen) (q12 : x12.length ≤ maxLen) (q14 : x14.length ≤ maxLen) (qs : B_ShardS ss) (qd : B_DiskS ds) (qu : us.length ≤ maxLen) (qp : B_PacketS ps) (qc : cs.length ≤ maxLen) (qr : B_RecS rs) :
    g_lFnExactOnce (n, x0, x1, x2, x3, x4, x5, x6, x7, x8, x9, x10, x11, x12, x13, x14, ss, ds, us, ps, cs, rs) = some (true, ()) := by
  show f_lFnExactOnce BIG _ = _
  rw [e_lFnExactOnce]
  have hs := sz_World n x0 x1 x2 x3 x4 x5 x6 x7 x8 x9 x10 x11 x12 x13 x14 ss ds us ps cs rs 1048576 (by omega) (by omega) q1 q2 q3 q4 q12 q14 qs qd qu qp qc qr
  by_cases hz : (((x1.length + x2.length + z_IntSS x3 + x4.length + x12.length + x14.length) + z_ShardS ss + z_DiskS ds + us.length + z_PacketS ps + cs.length + z_RecS rs : Nat) : Int) ≤ 1048576
  case neg =>
    rw [if_neg hz] at hs
    rw [hs]; rfl
  rw [if_pos hz] at hs
  have hf := flat_len ss
  have wi := w_iOnce n x0 x1 x2 x3 x4 x5 x6 x7 x8 x9 x10 x11 x12 x13 x14 ss ds us ps cs rs (by omega) (by omega) (fun y hy => by have := z_ShardS_mem hy; omega) (by omega)
  have ws := w_sOnce n x0 x1 x2 x3 x4 x5 x6 x7 x8 x9 x10 x11 x12 x13 x14 ss ds us ps cs rs (by omega) (by omega) (fun y hy => by have := z_ShardS_mem hy; omega) (by omega)
  have ht := to_World n x0 x1 x2 x3 x4 x5 x6 x7 x8 x9 x10 x11 x12 x13 x14 ss ds us ps cs rs (by omega)
  have he := eq_World n x0 x1 x2 x3 x4 x5 x6 x7 x8 x9 x10 x11 x12 x13 x14 ss ds us ps cs rs (by omega)
  rw [hs, Option.bind_some]
  dsimp only
  rw [decide_eq_false (by omega), cond_false]
  simp only [ht, Option.bind_some, ws, wi, beq_self_eq_true, Bool.not_true, cond_false, he]
end Go.Fw
