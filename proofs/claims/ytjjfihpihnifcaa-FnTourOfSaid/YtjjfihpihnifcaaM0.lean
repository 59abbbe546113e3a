/- What the given functions come to. No conditions. -/
import Derived.Test.YtjjfihpihnifcaaX0
import Derived.IntWalk
set_option linter.unusedVariables false
set_option linter.unusedSimpArgs false
namespace Go.Fw

theorem loop_rel {X B : Type} {F : (X → Option B) → X → Option B} (I : X → Prop) (μ : X → Nat) (Q : X → B → Prop)
    (h : ∀ self x, I x → (∀ y, I y → μ y < μ x → ∃ b, self y = some b ∧ Q y b) → ∃ b, F self x = some b ∧ Q x b) : ∀ {n : Nat} {x : X}, μ x < n → I x → ∃ b, loopT n F x = some b ∧ Q x b
  | 0, _, hn, _ => absurd hn (Nat.not_lt_zero _)
  | n + 1, x, hn, hi => h (it F n) x hi fun _ hy hm => loop_rel I μ Q h (n := n) (by omega) hy
theorem loop_eq {X B : Type} {F : (X → Option B) → X → Option B} (I : X → Prop) (μ : X → Nat) (R : X → B)
    (h : ∀ self x, I x → (∀ y, I y → μ y < μ x → self y = some (R y)) → F self x = some (R x)) {n : Nat} {x : X} (hn : μ x < n) (hi : I x) : loopT n F x = some (R x) := by
  obtain ⟨b, h1, h2⟩ := loop_rel (F := F) I μ (fun x b => b = R x) (fun self x hx hs => ⟨_, h self x hx fun y hy hm => by obtain ⟨b, h1, h2⟩ := hs y hy hm; rw [h1, h2], rfl⟩) hn hi
  rw [h1, h2]
theorem wr {n : Int} (h : -9223372036854775808 ≤ n) (h' : n ≤ 9223372036854775807) : IntKind.wrap .i64 n = n := by
  rw [IntKind.wrap_i64]; omega
theorem wr1 {i : Nat} (h : i < maxLen) : IntKind.wrap .i64 ((i : Int) + 1) = ((i + 1 : Nat) : Int) := by
  have : maxLen = 9223372036854775807 := by decide
  rw [wr (by omega) (by omega)]; rfl
theorem bnd_ok {B : Type} {len : Nat} {i : Int} {k : Nat → Option B} (h : 0 ≤ i) (h' : i < len) : bnd len i k = k i.toNat := by
  unfold bnd
  rw [if_pos ⟨h, by omega⟩]
theorem bnd_nat {B : Type} {len : Nat} {i : Nat} {k : Nat → Option B} (h' : i < len) : bnd len (i : Int) k = k i := by
  rw [bnd_ok (Int.natCast_nonneg i) (by omega)]
  simp
/-- A loop that goes through a row, and is left at the first place where it is told so. -/
theorem allLoop {α B : Type} (a : List α) (hl : a.length < 18446744073709551616) {F : (Int → Option (Unit ⊕ B)) → Int → Option (Unit ⊕ B)} (p : Nat → Bool) (b : B)
    (hF : ∀ self (i : Nat) y, a[i]? = some y → F self (i : Int) = if p i then self ((i + 1 : Nat) : Int) else some (.inr b))
    (hE : ∀ self, F self (a.length : Int) = some (.inl ())) : loopT BIG F 0 = some (if ∀ i, i < a.length → p i = true then .inl () else .inr b) := by
  have hh := loop_rel (F := F) (fun x => ∃ i : Nat, x = i ∧ i ≤ a.length) (fun x => a.length - x.toNat) (fun x r => ((∀ i : Nat, x ≤ (i : Int) → i < a.length → p i = true) ∧ r = .inl ()) ∨ ((∃ i : Nat, i < a.length ∧ p i = false) ∧ r = .inr b)) (fun self x ⟨i, h1, h2⟩ hs => ?_) (n := BIG) (x := 0) (by simp; exact hl) ⟨0, rfl, by simp⟩
  · obtain ⟨r, hr, hq⟩ := hh
    rw [hr]
    congr 1
    rcases hq with ⟨h1, rfl⟩ | ⟨⟨i, h1, h2⟩, rfl⟩
    · rw [if_pos fun i hi => h1 i (by omega) hi]
    · rw [if_neg]
      intro h
      rw [h i h1] at h2; cases h2
  · subst h1
    by_cases hi : i < a.length
    · rw [hF self i a[i] (List.getElem?_eq_getElem hi)]
      cases hp : p i with
      | true =>
        rw [if_pos rfl]
        obtain ⟨r, hr, hq⟩ := hs _ ⟨i + 1, rfl, hi⟩ (by simp; omega)
        refine ⟨r, hr, ?_⟩
        rcases hq with ⟨h1, rfl⟩ | h1
        · refine .inl ⟨fun k hk hk' => ?_, rfl⟩
          by_cases h : k = i
          · subst h; exact hp
          · exact h1 k (by omega) hk'
        · exact .inr h1
      | false => exact ⟨_, rfl, .inr ⟨⟨i, hi, hp⟩, rfl⟩⟩
    · have : i = a.length := by omega
      subst this
      exact ⟨_, hE self, .inl ⟨fun k hk hk' => by omega, rfl⟩⟩
theorem maxLen_lt : maxLen < 18446744073709551616 := by decide
/-- Two rows that are looked at side by side. -/
theorem eqLoop {α B : Type} [DecidableEq α] (a b : List α) (hl : a.length ≤ maxLen) (hab : a.length = b.length) {F : (Int → Option (Unit ⊕ B)) → Int → Option (Unit ⊕ B)} (r : B)
    (hF : ∀ self (i : Nat) x y, a[i]? = some x → b[i]? = some y → F self (i : Int) = if x = y then self ((i + 1 : Nat) : Int) else some (.inr r))
    (hE : ∀ self, F self (a.length : Int) = some (.inl ())) : loopT BIG F 0 = some (if a = b then .inl () else .inr r) := by
  rw [allLoop a (Nat.lt_of_le_of_lt hl maxLen_lt) (fun i => decide (a[i]? = b[i]?)) r (fun self i y hy => ?_) hE]
  · congr 1
    by_cases h : a = b
    · subst h; simp
    · rw [if_neg h, if_neg]
      intro h'
      apply h
      apply List.ext_getElem? fun i => ?_
      by_cases hi : i < a.length
      · simpa using h' i hi
      · rw [List.getElem?_eq_none (by omega), List.getElem?_eq_none (by omega)]
  · have hi := (List.getElem?_eq_some_iff.1 hy).1
    have hb : b[i]? = some (b[i]'(by omega)) := List.getElem?_eq_getElem (by omega)
    rw [hF self i y _ hy hb, hy, hb]
    simp
/-- A loop that goes through a row and keeps an account. -/
theorem foldLoop {α S B : Type} (a : List α) (hl : a.length < 18446744073709551616) {F : (S × Int → Option B) → S × Int → Option B} (I : Nat → S → Prop) (st : S → α → S) (R : S → B) {s0 : S} (h0 : I 0 s0)
    (hI : ∀ i s y, a[i]? = some y → I i s → I (i + 1) (st s y)) (hF : ∀ self s (i : Nat) y, a[i]? = some y → I i s → F self (s, (i : Int)) = self (st s y, ((i + 1 : Nat) : Int)))
    (hE : ∀ self s, I a.length s → F self (s, (a.length : Int)) = some (R s)) : loopT BIG F (s0, 0) = some (R (a.foldl st s0)) := by
  have := loop_eq (F := F) (fun x => ∃ i : Nat, x.2 = i ∧ i ≤ a.length ∧ I i x.1) (fun x => a.length - x.2.toNat) (fun x => R ((a.drop x.2.toNat).foldl st x.1)) (fun self x ⟨i, h1, h2, h3⟩ hs => ?_) (n := BIG) (x := (s0, 0)) (by simp; exact hl) ⟨0, rfl, by simp, h0⟩
  · simpa using this
  · obtain ⟨s, j⟩ := x
    simp only at h1 h2 h3
    subst h1
    by_cases hi : i < a.length
    · have hy := List.getElem?_eq_getElem hi
      rw [hF self s i a[i] hy h3, hs _ ⟨i + 1, rfl, hi, hI _ _ _ hy h3⟩ (by simp; omega)]
      simp only [Int.toNat_natCast]
      rw [List.drop_eq_getElem_cons hi, List.foldl_cons]
    · have : i = a.length := by omega
      subst this
      rw [hE self s h3]
      simp
theorem set_take_drop {α : Type} {a t : List α} {i : Nat} {z : α} (ht : t.length = a.length) (hi : i < a.length) (hz : t[i]? = some z) : (t.take i ++ a.drop i).set i z = t.take (i + 1) ++ a.drop (i + 1) := by
  have hi' : i < t.length := by omega
  rw [List.getElem?_eq_getElem hi', Option.some.injEq] at hz
  subst hz
  rw [List.set_append_right _ _ (by simp; omega), List.drop_eq_getElem_cons hi, show i - (t.take i).length = 0 from by simp; omega, List.set_cons_zero, List.take_succ_eq_append_getElem hi', List.append_assoc]
  rfl
/-- A row bears marks that go from a number to a number. -/
def HdL {α : Type} (hd : Int → α → Int → Prop) : Int → List α → Int → Prop
  | k, [], k' => k' = k
  | k, z :: t, k' => ∃ k1, hd k z k1 ∧ HdL hd k1 t k'
theorem HdL.snoc {α : Type} {hd : Int → α → Int → Prop} : ∀ {t : List α} {k k1 k2 : Int} {z : α}, HdL hd k t k1 → hd k1 z k2 → HdL hd k (t ++ [z]) k2
  | [], _, _, _, _, h, h' => by cases h; exact ⟨_, h', rfl⟩
  | _ :: _, _, _, _, _, ⟨k3, h1, h2⟩, h' => ⟨k3, h1, h2.snoc h'⟩
/-- Two vertices hang together by edges. -/
inductive Con (E : List (Int × Int)) : Int → Int → Prop
  | refl (v : Int) : Con E v v
  | fwd {u v w : Int} : Con E u v → (v, w) ∈ E → Con E u w
  | bwd {u v w : Int} : Con E u v → (w, v) ∈ E → Con E u w
theorem Con.trans {E : List (Int × Int)} {u v w : Int} (h : Con E u v) (h' : Con E v w) : Con E u w := by
  induction h' with
  | refl => exact h
  | fwd _ he ih => exact .fwd ih he
  | bwd _ he ih => exact .bwd ih he
theorem Con.symm {E : List (Int × Int)} {u v : Int} (h : Con E u v) : Con E v u := by
  induction h with
  | refl => exact .refl _
  | fwd _ he ih => exact Con.trans (.bwd (.refl _) he) ih
  | bwd _ he ih => exact Con.trans (.fwd (.refl _) he) ih
theorem Con.mono {E E' : List (Int × Int)} (hE : ∀ e, e ∈ E → e ∈ E') {u v : Int} (h : Con E u v) : Con E' u v := by
  induction h with
  | refl => exact .refl _
  | fwd _ he ih => exact .fwd ih (hE _ he)
  | bwd _ he ih => exact .bwd ih (hE _ he)
theorem Con.of {E : List (Int × Int)} {u v : Int} (h : (u, v) ∈ E) : Con E u v := .fwd (.refl _) h
theorem Con.nil {u v : Int} (h : Con [] u v) : u = v := by
  induction h with
  | refl => rfl
  | fwd _ he _ => cases he
  | bwd _ he _ => cases he
theorem Con.snoc {E : List (Int × Int)} {a b u v : Int} : Con (E ++ [(a, b)]) u v ↔ Con E u v ∨ (Con E u a ∧ Con E b v) ∨ (Con E u b ∧ Con E a v) := by
  constructor
  · intro h
    induction h with
    | refl => exact .inl (.refl _)
    | fwd _ he ih =>
      rcases List.mem_append.1 he with h1 | h1
      · rcases ih with h | ⟨h, h'⟩ | ⟨h, h'⟩
        · exact .inl (.fwd h h1)
        · exact .inr (.inl ⟨h, .fwd h' h1⟩)
        · exact .inr (.inr ⟨h, .fwd h' h1⟩)
      · cases List.mem_singleton.1 h1
        rcases ih with h | ⟨h, h'⟩ | ⟨h, h'⟩
        · exact .inr (.inl ⟨h, .refl _⟩)
        · exact .inr (.inl ⟨h, .refl _⟩)
        · exact .inl h
    | bwd _ he ih =>
      rcases List.mem_append.1 he with h1 | h1
      · rcases ih with h | ⟨h, h'⟩ | ⟨h, h'⟩
        · exact .inl (.bwd h h1)
        · exact .inr (.inl ⟨h, .bwd h' h1⟩)
        · exact .inr (.inr ⟨h, .bwd h' h1⟩)
      · cases List.mem_singleton.1 h1
        rcases ih with h | ⟨h, h'⟩ | ⟨h, h'⟩
        · exact .inr (.inr ⟨h, .refl _⟩)
        · exact .inl h
        · exact .inr (.inr ⟨h, .refl _⟩)
  · have hm : ∀ {x y : Int}, Con E x y → Con (E ++ [(a, b)]) x y := fun h => h.mono fun e he => List.mem_append_left _ he
    have hab : Con (E ++ [(a, b)]) a b := .of (List.mem_append_right _ (List.mem_singleton.2 rfl))
    rintro (h | ⟨h, h'⟩ | ⟨h, h'⟩)
    · exact hm h
    · exact (hm h).trans (hab.trans (hm h'))
    · exact (hm h).trans (hab.symm.trans (hm h'))
/-- Edges of so many vertices. -/
def EIn (n : Nat) (E : List (Int × Int)) : Prop := ∀ e, e ∈ E → 0 ≤ e.1 ∧ e.1 < n ∧ 0 ≤ e.2 ∧ e.2 < n
theorem Con.range {n : Nat} {E : List (Int × Int)} (hE : EIn n E) {u v : Int} (h : Con E u v) (hu : 0 ≤ u ∧ u < n) : 0 ≤ v ∧ v < n := by
  induction h with
  | refl => exact hu
  | fwd _ he _ => exact ⟨(hE _ he).2.2.1, (hE _ he).2.2.2⟩
  | bwd _ he _ => exact ⟨(hE _ he).1, (hE _ he).2.1⟩
/-- Labels: to each vertex the least one that it hangs together with. -/
def Lab (n : Nat) (E : List (Int × Int)) (l : List Int) : Prop :=
  l.length = n ∧ ∀ (v : Nat) (x : Int), l[v]? = some x → Con E v x ∧ 0 ≤ x ∧ ∀ u : Int, 0 ≤ u → Con E v u → x ≤ u
theorem Lab.le {n : Nat} {E : List (Int × Int)} {l : List Int} (h : Lab n E l) {v : Nat} {x : Int} (hx : l[v]? = some x) : x ≤ v :=
  (h.2 v x hx).2.2 v (Int.natCast_nonneg v) (.refl _)
theorem Lab.lt {n : Nat} {E : List (Int × Int)} {l : List Int} (h : Lab n E l) {v : Nat} {x : Int} (hx : l[v]? = some x) : 0 ≤ x ∧ x < n := by
  have h1 := h.le hx
  have h2 := (List.getElem?_eq_some_iff.1 hx).1
  have h3 := (h.2 v x hx).2.1
  have h4 := h.1
  omega
theorem Lab.iff {n : Nat} {E : List (Int × Int)} {l : List Int} (h : Lab n E l) {u v : Nat} {x y : Int} (hx : l[u]? = some x) (hy : l[v]? = some y) : x = y ↔ Con E u v := by
  have h1 := h.2 u x hx
  have h2 := h.2 v y hy
  constructor
  · intro e
    subst e
    exact h1.1.trans h2.1.symm
  · intro c
    have a := h1.2.2 y h2.2.1 (c.trans h2.1)
    have b := h2.2.2 x h1.2.1 (c.symm.trans h1.1)
    omega
/-- A label is its own label. -/
theorem Lab.self {n : Nat} {E : List (Int × Int)} {l : List Int} (h : Lab n E l) {v : Nat} {x : Int} (hx : l[v]? = some x) : l[x.toNat]? = some x := by
  have h1 := h.lt hx
  have hi : x.toNat < l.length := by rw [h.1]; omega
  rw [List.getElem?_eq_getElem hi]
  have h2 := h.2 v x hx
  have hc : Con E (x.toNat : Int) v := by rw [Int.toNat_of_nonneg h1.1]; exact h2.1.symm
  rw [(h.iff (List.getElem?_eq_getElem hi) hx).2 hc]
/-- Labels without edges. -/
def lab0 (n : Nat) : List Int := (List.range n).map fun (i : Nat) => (i : Int)
theorem lab0_get {n v : Nat} {x : Int} (h : (lab0 n)[v]? = some x) : v < n ∧ x = v := by
  have hi := (List.getElem?_eq_some_iff.1 h).1
  simp only [lab0, List.length_map, List.length_range] at hi
  simp only [lab0, List.getElem?_map, List.getElem?_range hi, Option.map_some, Option.some.injEq] at h
  exact ⟨hi, h.symm⟩
theorem lab0_len (n : Nat) : (lab0 n).length = n := by simp [lab0]
theorem Lab.zero (n : Nat) : Lab n [] (lab0 n) := by
  refine ⟨lab0_len n, fun v x h => ?_⟩
  obtain ⟨_, rfl⟩ := lab0_get h
  exact ⟨.refl _, Int.natCast_nonneg v, fun u _ h => by rw [h.nil]; exact Int.le_refl _⟩
/-- Two labels made one. -/
def unL (l : List Int) (x y : Int) : List Int := l.map fun z => if z = (if y > x then y else x) then (if y < x then y else x) else z
theorem unL_len (l : List Int) (x y : Int) : (unL l x y).length = l.length := by simp [unL]
theorem unL_same (l : List Int) (x : Int) : unL l x x = l := by
  unfold unL
  conv => rhs; rw [← List.map_id l]
  apply List.map_congr_left
  intro z _
  simp only [gt_iff_lt, Int.lt_irrefl, if_false, id]
  split <;> simp_all
theorem Lab.union {n : Nat} {E : List (Int × Int)} {l : List Int} (h : Lab n E l) {a b : Nat} {x y : Int} (hx : l[a]? = some x) (hy : l[b]? = some y) : Lab n (E ++ [((a : Int), (b : Int))]) (unL l x y) := by
  refine ⟨by rw [unL_len, h.1], fun v z hz => ?_⟩
  simp only [unL, List.getElem?_map, Option.map_eq_some_iff] at hz
  obtain ⟨w, hw, hz⟩ := hz
  have hax := h.2 a x hx
  have hby := h.2 b y hy
  have hvw := h.2 v w hw
  have ew : ∀ {c : Nat} {t : Int}, l[c]? = some t → (w = t ↔ Con E v c) := fun hc => h.iff hw hc
  have hA := ew hx
  have hB := ew hy
  have hab : Con (E ++ [((a : Int), (b : Int))]) a b := .of (List.mem_append_right _ (List.mem_singleton.2 rfl))
  have hm : ∀ {s t : Int}, Con E s t → Con (E ++ [((a : Int), (b : Int))]) s t := fun h => h.mono fun e he => List.mem_append_left _ he
  by_cases hxy : x = y
  · subst hxy
    have hcab : Con E a b := (h.iff hx hy).1 rfl
    have : z = w := by
      subst hz
      simp only [gt_iff_lt, Int.lt_irrefl, if_false]
      split <;> simp_all
    subst this
    refine ⟨hm hvw.1, hvw.2.1, fun u hu hc => ?_⟩
    apply hvw.2.2 u hu
    rcases Con.snoc.1 hc with h1 | ⟨h1, h2⟩ | ⟨h1, h2⟩
    · exact h1
    · exact h1.trans (hcab.trans h2)
    · exact h1.trans (hcab.symm.trans h2)
  · have key : ∀ u : Int, 0 ≤ u → Con (E ++ [((a : Int), (b : Int))]) v u → (w ≤ u) ∨ (w = x ∧ y ≤ u) ∨ (w = y ∧ x ≤ u) := by
      intro u hu hc
      rcases Con.snoc.1 hc with h1 | ⟨h1, h2⟩ | ⟨h1, h2⟩
      · exact .inl (hvw.2.2 u hu h1)
      · exact .inr (.inl ⟨hA.2 h1, hby.2.2 u hu h2⟩)
      · exact .inr (.inr ⟨hB.2 h1, hax.2.2 u hu h2⟩)
    by_cases hwx : w = x
    · have hva := hA.1 hwx
      subst hwx
      by_cases hlt : y > w
      · rw [if_pos hlt, if_neg (by omega)] at hz
        subst hz
        refine ⟨hm hvw.1, hvw.2.1, fun u hu hc => ?_⟩
        rcases key u hu hc with h1 | h1 | h1 <;> omega
      · rw [if_neg hlt, if_pos rfl, if_pos (by omega)] at hz
        subst hz
        refine ⟨(hm hva).trans (hab.trans (hm hby.1)), hby.2.1, fun u hu hc => ?_⟩
        rcases key u hu hc with h1 | h1 | h1 <;> omega
    · by_cases hwy : w = y
      · have hvb := hB.1 hwy
        subst hwy
        by_cases hlt : w > x
        · rw [if_pos hlt, if_pos rfl, if_neg (by omega)] at hz
          subst hz
          refine ⟨(hm hvb).trans (hab.symm.trans (hm hax.1)), hax.2.1, fun u hu hc => ?_⟩
          rcases key u hu hc with h1 | h1 | h1 <;> omega
        · rw [if_neg hlt, if_neg hwx] at hz
          subst hz
          refine ⟨hm hvw.1, hvw.2.1, fun u hu hc => ?_⟩
          rcases key u hu hc with h1 | h1 | h1 <;> omega
      · rw [if_neg (by split <;> omega)] at hz
        subst hz
        refine ⟨hm hvw.1, hvw.2.1, fun u hu hc => ?_⟩
        rcases key u hu hc with h1 | h1 | h1 <;> omega
/-- One edge's part in the labels. -/
def unE (l : List Int) (e : Int × Int) : List Int := unL l (l.getD e.1.toNat 0) (l.getD e.2.toNat 0)
theorem Lab.unE {n : Nat} {E : List (Int × Int)} {l : List Int} (h : Lab n E l) {e : Int × Int} (he : 0 ≤ e.1 ∧ e.1 < n ∧ 0 ≤ e.2 ∧ e.2 < n) : Lab n (E ++ [e]) (unE l e) := by
  have h1 : e.1.toNat < l.length := by rw [h.1]; omega
  have h2 : e.2.toNat < l.length := by rw [h.1]; omega
  have := h.union (a := e.1.toNat) (b := e.2.toNat) (List.getElem?_eq_getElem h1) (List.getElem?_eq_getElem h2)
  rw [Int.toNat_of_nonneg he.1, Int.toNat_of_nonneg he.2.2.1] at this
  unfold Go.Fw.unE
  rw [List.getD_eq_getElem?_getD, List.getD_eq_getElem?_getD, List.getElem?_eq_getElem h1, List.getElem?_eq_getElem h2]
  exact this
section
variable {n : Nat} {E : List (Int × Int)} {L : List Int}
/-- On the way down to the labels. -/
def Dn (n : Nat) (E : List (Int × Int)) (l : List Int) : Prop := l.length = n ∧ ∀ (v : Nat) (x : Int), l[v]? = some x → Con E v x ∧ 0 ≤ x
theorem Dn.set {l : List Int} (h : Dn n E l) {v : Nat} {x : Int} (hc : Con E v x) (h0 : 0 ≤ x) : Dn n E (l.set v x) := by
  refine ⟨by simp [h.1], fun u y hu => ?_⟩
  rw [List.getElem?_set] at hu
  split at hu
  · subst v
    split at hu
    · cases hu; exact ⟨hc, h0⟩
    · cases hu
  · exact h.2 u y hu
theorem getD_at {l : List Int} {i : Nat} (h : i < l.length) : l[i]? = some (l.getD i 0) := by
  rw [List.getD_eq_getElem?_getD, List.getElem?_eq_getElem h]; rfl
theorem con_step {D : Int → Prop} {u v : Int} (h : Con E u v) (hu : D u) (hv : ¬ D v) : ∃ x y : Int, D x ∧ ¬ D y ∧ ((x, y) ∈ E ∨ (y, x) ∈ E) := by
  induction h with
  | refl => exact absurd hu hv
  | @fwd a b _ he ih =>
    by_cases hb : D a
    · exact ⟨_, _, hb, hv, .inl he⟩
    · exact ih hb
  | @bwd a b _ he ih =>
    by_cases hb : D a
    · exact ⟨_, _, hb, hv, .inr he⟩
    · exact ih hb
end
theorem h_sl01In (a b c : Int) : g_sl01In (a, b, c) = some (decide (b ≤ a) && decide (a ≤ c), ()) := by
  show f_sl01In BIG _ = _
  rw [e_sl01In]
  cases decide (b ≤ a) <;> rfl
theorem h_iin (a b c : Int) : g_iin (a, b, c) = some (decide (b ≤ a) && decide (a ≤ c), ()) := by
  show f_iin BIG _ = _
  rw [e_iin]
  cases decide (b ≤ a) <;> rfl
abbrev Ed := Int × Int
theorem foldl_filter {α : Type} (p : α → Bool) : ∀ (l : List α) (s : List α), l.foldl (fun s y => if p y then s ++ [y] else s) s = s ++ l.filter p
  | [], s => by simp
  | y :: l, s => by
    rw [List.foldl_cons, foldl_filter p l]
    cases h : p y <;> simp [h]
abbrev Sd := Int × Int × Int × Int × Int × Int
def inB (a b c : Int) : Bool := decide (b ≤ a) && decide (a ≤ c)
theorem h_sl01In' (a b c : Int) : g_sl01In (a, b, c) = some (inB a b c, ()) := h_sl01In a b c
theorem h_iin' (a b c : Int) : g_iin (a, b, c) = some (inB a b c, ()) := h_iin a b c
theorem inB_t {a b c : Int} : inB a b c = true ↔ b ≤ a ∧ a ≤ c := by simp [inB]
def edB (n : Int) (e : Ed) : Bool := inB n 1 12 && (inB e.1 0 (n - 1) && (inB e.2 0 (n - 1) && decide (e.1 < e.2)))
theorem h_iEdgeOk (n : Int) (e : Ed) : g_iEdgeOk (n, e) = some (edB n e, ()) := by
  show f_iEdgeOk BIG _ = _
  rw [e_iEdgeOk, h_iin', Option.bind_some]
  unfold edB
  cases h : inB n 1 12 with
  | false => rfl
  | true =>
    have := inB_t.1 h
    rw [wr (by omega) (by omega)]
    simp only [h_iin', Option.bind_some, cond_true, Bool.true_and]
    cases inB e.1 0 (n - 1) <;> cases inB e.2 0 (n - 1) <;> rfl
theorem h_sEdgeOk (n : Int) (e : Ed) : g_sEdgeOk (n, e) = some (edB n e, ()) := by
  show f_sEdgeOk BIG _ = _
  rw [e_sEdgeOk, h_sl01In', Option.bind_some]
  unfold edB
  cases h : inB n 1 12 with
  | false => rfl
  | true =>
    have := inB_t.1 h
    rw [wr (by omega) (by omega)]
    simp only [h_sl01In', Option.bind_some, cond_true, Bool.true_and]
    cases inB e.1 0 (n - 1) <;> cases inB e.2 0 (n - 1) <;> rfl
def lsB (x y : Ed) : Bool := decide (x.1 < y.1) || (decide (x.1 = y.1) && decide (x.2 < y.2))
theorem h_sl05Less (x y : Ed) : g_sl05Less (x, y) = some (lsB x y, ()) := by
  show f_sl05Less BIG _ = _
  rw [e_sl05Less]
  unfold lsB
  cases decide (x.1 < y.1) <;> cases decide (x.1 = y.1) <;> rfl
def eP (n : Int) (es : List Ed) (i : Nat) : Bool := match es[i]? with
  | some y => edB n y && (match i with
    | 0 => true
    | j + 1 => match es[j]? with
      | some x => lsB x y
      | none => false)
  | none => false
def eOk (n : Int) (es : List Ed) : Bool := if ∀ i, i < es.length → eP n es i = true then decide ((es.length : Int) ≤ 66) else false
def lbP (l : List Int) (i : Nat) : Bool := match l[i]? with
  | some y => inB y 0 i && (match l[y.toNat]? with
    | some z => decide (z = y)
    | none => false)
  | none => false
def lbOk (n : Int) (l : List Int) : Bool := if (l.length : Int) = n then (if ∀ i, i < l.length → lbP l i = true then true else false) else false
theorem lsB_iff (x y : Ed) : lsB x y = true ↔ x.1 < y.1 ∨ (x.1 = y.1 ∧ x.2 < y.2) := by simp [lsB]
theorem lsB_trans {x y z : Ed} (h : lsB x y = true) (h' : lsB y z = true) : lsB x z = true := by
  rw [lsB_iff] at *; omega
theorem lsB_tri {x y : Ed} (h : lsB x y = false) (h' : lsB y x = false) : x = y := by
  have h1 : ¬ lsB x y = true := by simp [h]
  have h2 : ¬ lsB y x = true := by simp [h']
  rw [lsB_iff] at h1 h2
  exact Prod.ext (by omega) (by omega)
abbrev Srt (l : List Ed) : Prop := l.Pairwise (fun x y => lsB x y = true)
def ins (l : List Ed) (e : Ed) : List Ed := l.filter (fun y => lsB y e) ++ [e] ++ l.filter (fun y => lsB e y)
theorem ins_mem {l : List Ed} {e x : Ed} : x ∈ ins l e ↔ x = e ∨ x ∈ l := by
  simp only [ins, List.mem_append, List.mem_filter, List.mem_singleton]
  constructor
  · rintro ((h | h) | h)
    · exact .inr h.1
    · exact .inl h
    · exact .inr h.1
  · rintro (h | h)
    · exact .inl (.inr h)
    · cases h1 : lsB x e with
      | true => exact .inl (.inl ⟨h, rfl⟩)
      | false =>
        cases h2 : lsB e x with
        | true => exact .inr ⟨h, rfl⟩
        | false => exact .inl (.inr (lsB_tri h1 h2))
theorem ins_srt {l : List Ed} {e : Ed} (h : Srt l) : Srt (ins l e) := by
  simp only [ins, Srt, List.append_assoc, List.pairwise_append, List.singleton_append, List.pairwise_cons]
  refine ⟨h.filter _, ⟨fun y hy => (List.mem_filter.1 hy).2, h.filter _⟩, fun x hx y hy => ?_⟩
  have h1 := (List.mem_filter.1 hx).2
  rcases List.mem_cons.1 hy with hy | hy
  · subst hy; exact h1
  · exact lsB_trans h1 (List.mem_filter.1 hy).2
theorem h_sl05Has (l : List Ed) (e : Ed) (hl : l.length ≤ maxLen) : g_sl05Has (l, e) = some (decide (e ∈ l), ()) := by
  show f_sl05Has BIG _ = _
  rw [e_sl05Has, allLoop l (Nat.lt_of_le_of_lt hl maxLen_lt) (fun i => decide (l[i]? ≠ some e)) true (fun self i y hy => by
      have hi := (List.getElem?_eq_some_iff.1 hy).1
      simp only [show ((i : Int) < (l.length : Int)) from by omega, decide_true, cond_true]
      rw [bnd_nat hi, hy, Option.bind_some, wr1 (by omega)]
      obtain ⟨y1, y2⟩ := y
      obtain ⟨e1, e2⟩ := e
      by_cases h1 : y1 = e1 <;> by_cases h2 : y2 = e2 <;> simp [h1, h2]) (fun self => by simp)]
  by_cases h : e ∈ l
  · rw [if_neg, decide_eq_true h]
    · rfl
    · intro hh
      obtain ⟨i, hi⟩ := List.getElem?_of_mem h
      have := hh i (List.getElem?_eq_some_iff.1 hi).1
      rw [decide_eq_true_eq] at this
      exact this hi
  · rw [if_pos, decide_eq_false h]
    · rfl
    · intro i hi
      rw [decide_eq_true_eq]
      exact fun hh => h (List.mem_of_getElem? hh)
theorem h_sl05Put (l : List Ed) (e : Ed) (hl : l.length ≤ 1048576) : g_sl05Put (l, e) = some (ins l e, ()) := by
  have hm : maxLen = 9223372036854775807 := by decide
  show f_sl05Put BIG _ = _
  rw [e_sl05Put, foldLoop l (by omega) (fun i (c : List Ed) => c.length ≤ i) (fun c y => if lsB y e then c ++ [y] else c) id (by simp) (fun i c y _ (h : c.length ≤ i) => by show List.length (if _ then _ else _) ≤ _; split <;> (try simp) <;> omega)]
  · rw [foldl_filter]
    simp only [id, List.nil_append, Option.bind_some]
    have h1 := List.length_filter_le (fun y => lsB y e) l
    rw [decide_eq_true (by simp; omega), cond_true, foldLoop l (by omega) (fun i (c : List Ed) => c.length ≤ l.length + 1 + i) (fun c y => if lsB e y then c ++ [y] else c) id (by simp; omega) (fun i c y _ (h : c.length ≤ _) => by show List.length (if _ then _ else _) ≤ _; split <;> (try simp) <;> omega)]
    · rw [foldl_filter]; rfl
    · intro self c i y hy (hc : c.length ≤ _)
      have hi := (List.getElem?_eq_some_iff.1 hy).1
      simp only [show ((i : Int) < (l.length : Int)) from by omega, decide_true, cond_true]
      simp only [bnd_nat hi, hy, Option.bind_some, h_sl05Less, wr1 (show i < maxLen from by omega)]
      cases lsB e y with
      | false => simp
      | true => simp [show c.length + 1 ≤ 4294967296 from by omega]
    · intro self c hc
      simp
  · intro self c i y hy (hc : c.length ≤ i)
    have hi := (List.getElem?_eq_some_iff.1 hy).1
    simp only [show ((i : Int) < (l.length : Int)) from by omega, decide_true, cond_true]
    simp only [bnd_nat hi, hy, Option.bind_some, h_sl05Less, wr1 (show i < maxLen from by omega)]
    cases lsB y e with
    | false => simp
    | true => simp [show c.length + 1 ≤ 4294967296 from by omega]
  · intro self c hc
    simp
theorem and255 (n : Int) : bits .and .i64 n 255 = n % 256 := by
  have h255 : (BitVec.ofInt 64 255).toNat = 2 ^ 8 - 1 := by decide
  have key : (BitVec.ofInt 64 n &&& BitVec.ofInt 64 255).toNat = (n % ((2 ^ 64 : Nat) : Int)).toNat % 2 ^ 8 := by
    rw [BitVec.toNat_and, BitVec.toNat_ofInt, h255, Nat.and_two_pow_sub_one_eq_mod]
  show IntKind.i64.wrap ((BitVec.ofInt 64 n &&& BitVec.ofInt 64 255).toNat : Nat) = n % 256
  rw [key, IntKind.wrap_i64]
  omega
abbrev Cur := List Int × Int × Int
def curOk (c : Cur) : Prop := c.1.length ≤ 1048576 ∧ 0 ≤ c.2.1 ∧ c.2.1 ≤ c.1.length
theorem h_sl01Byte (c : Cur) (hc : curOk c) : ∃ r c', g_sl01Byte c = some (r, c') ∧ curOk c' ∧ 0 ≤ r ∧ r ≤ 255 := by
  have e : g_sl01Byte c = f_sl01Byte BIG c := rfl
  obtain ⟨h1, h2, h3⟩ := hc
  rw [e, e_sl01Byte, decide_eq_false (by decide), cond_false, decide_eq_false (by decide), cond_false]
  simp only [and255]
  by_cases h : c.2.1 < c.1.length
  · rw [decide_eq_true h, cond_true, bnd_ok h2 h, List.getElem?_eq_getElem (by omega), Option.bind_some, Option.bind_some]
    refine ⟨_, _, rfl, ⟨h1, ?_, ?_⟩, Int.emod_nonneg _ (by decide), by omega⟩
    · show 0 ≤ IntKind.wrap .i64 (c.2.1 + 1)
      rw [wr (by omega) (by omega)]; omega
    · show IntKind.wrap .i64 (c.2.1 + 1) ≤ _
      rw [wr (by omega) (by omega)]
      show c.2.1 + 1 ≤ (c.1.length : Int)
      omega
  · rw [decide_eq_false h, cond_false, Option.bind_some]
    exact ⟨_, _, rfl, ⟨h1, h2, h3⟩, Int.emod_nonneg _ (by decide), by omega⟩
theorem h_sl01Below (c : Cur) (n : Int) (hc : curOk c) (hn : n ≤ 1000000) : ∃ r c', g_sl01Below (c, n) = some (r, c') ∧ curOk c' ∧ 0 ≤ r ∧ (0 < n → r < n) ∧ (n ≤ 0 → r = 0) := by
  have e : g_sl01Below (c, n) = f_sl01Below BIG (c, n) := rfl
  rw [e, e_sl01Below]
  by_cases h0 : n ≤ 0
  · rw [decide_eq_true h0]; exact ⟨0, c, rfl, hc, by omega, by omega, fun _ => rfl⟩
  · rw [decide_eq_false h0, cond_false]
    obtain ⟨r1, c1, k1, o1, a1, b1⟩ := h_sl01Byte c hc
    by_cases h1 : n ≤ 256
    · rw [decide_eq_true h1, cond_true, k1, Option.bind_some, decide_eq_false (by omega), cond_false]
      refine ⟨_, _, rfl, o1, Int.tmod_nonneg _ a1, fun _ => ?_, by omega⟩
      show Int.tmod r1 n < n
      exact Int.tmod_lt_of_pos _ (by omega)
    · rw [decide_eq_false h1, cond_false, k1, Option.bind_some]
      obtain ⟨r2, c2, k2, o2, a2, b2⟩ := h_sl01Byte c1 o1
      obtain ⟨r3, c3, k3, o3, a3, b3⟩ := h_sl01Byte c2 o2
      obtain ⟨r4, c4, k4, o4, a4, b4⟩ := h_sl01Byte c3 o3
      simp only [k2, k3, k4, Option.bind_some]
      rw [decide_eq_false (by omega), cond_false]
      refine ⟨_, _, rfl, o4, ?_, fun _ => Int.tmod_lt_of_pos _ (by omega), by omega⟩
      refine Int.tmod_nonneg _ ?_
      rw [wr (n := r1 * 16777216) (by omega) (by omega), wr (n := r2 * 65536) (by omega) (by omega), wr (n := r3 * 256) (by omega) (by omega), wr (n := r1 * 16777216 + r2 * 65536) (by omega) (by omega), wr (n := r1 * 16777216 + r2 * 65536 + r3 * 256) (by omega) (by omega), wr (by omega) (by omega)]
      omega
def GrOk (n : Int) (es : List Ed) : Prop := 2 ≤ n ∧ n ≤ 12 ∧ Srt es ∧ (∀ e, e ∈ es → edB n e = true)
theorem h_sl01New (a : List Int) (ha : a.length ≤ 1048576) : ∃ c, g_sl01New a = some (c, ()) ∧ curOk c := by
  have hm : maxLen = 9223372036854775807 := by decide
  have e : g_sl01New a = f_sl01New BIG a := rfl
  rw [e, e_sl01New]
  have := loop_rel (F := fun (self1 : Int × Int → Option (Int)) (x0 : Int × Int) =>
    Option.bind (bif decide (x0.2 < (a.length : Int)) then
      some (decide (x0.2 < (4000 : Int)))
     else some false : Option (Bool)) fun x2 =>
    bif x2 then
     bnd a.length x0.2 fun n3 =>
     Option.bind a[n3]? fun y4 =>
     self1 (bits .and .i64 (IntKind.wrap .i64 ((IntKind.wrap .i64 ((IntKind.wrap .i64 (x0.1 * (131 : Int))) + (IntKind.wrap .i64 (y4)))) + (7 : Int))) (1073741823 : Int), IntKind.wrap .i64 (x0.2 + (1 : Int)))
    else some x0.1) (fun x => ∃ i : Nat, x.2 = i ∧ i ≤ a.length) (fun x => a.length - x.2.toNat) (fun _ _ => True) (fun self x ⟨i, h1, h2⟩ hs => ?_) (n := BIG) (x := (IntKind.wrap .i64 ((13501 : Int) + (a.length : Int)), 0)) (by simp [BIG]; omega) ⟨0, rfl, by omega⟩
  · obtain ⟨b, hb, _⟩ := this
    rw [hb]
    exact ⟨_, rfl, ha, Int.le_refl _, by simp⟩
  · obtain ⟨z, j⟩ := x
    simp only at h1
    subst h1
    by_cases h : i < a.length
    · by_cases h' : (i : Int) < 4000
      · simp only [show ((i : Int) < (a.length : Int)) from by omega, h', decide_true, cond_true, Option.bind_some]
        rw [bnd_nat h, List.getElem?_eq_getElem h, Option.bind_some, wr1 (by omega)]
        exact hs _ ⟨i + 1, rfl, h⟩ (by simp; omega)
      · simp only [show ((i : Int) < (a.length : Int)) from by omega, h', decide_true, decide_false, cond_true, cond_false, Option.bind_some]
        exact ⟨_, rfl, trivial⟩
    · simp only [show ¬ ((i : Int) < (a.length : Int)) from by omega, decide_false, cond_false, Option.bind_some]
      exact ⟨_, rfl, trivial⟩
theorem GrOk.ins {n : Int} {es : List Ed} {e : Ed} (h : GrOk n es) (he : edB n e = true) : GrOk n (ins es e) := ⟨h.1, h.2.1, ins_srt h.2.2.1, fun x hx => by
  rcases ins_mem.1 hx with rfl | hx
  · exact he
  · exact h.2.2.2 x hx⟩
theorem h_lbig (a : List Int) : g_lbig a = some (decide ((1048576 : Int) < (a.length : Int)), ()) := e_lbig BIG a
theorem h_sl01Once (c : Cur) (n : Int) (hc : curOk c) (hn : n ≤ 1000000) : ∃ b c', g_sl01Once (c, n) = some (b, c') ∧ curOk c' := by
  have e : g_sl01Once (c, n) = f_sl01Once BIG (c, n) := rfl
  obtain ⟨r, c', k, o, _⟩ := h_sl01Below c n hc hn
  rw [e, e_sl01Once, k]
  exact ⟨_, _, rfl, o⟩
/-- A loop that counts up to a number and keeps an account. -/
theorem rangeLoop {S B : Type} (n : Nat) (hl : n < 18446744073709551616) {F : (S × Int → Option B) → S × Int → Option B} (I : Nat → S → Prop) (st : Nat → S → S) (R : S → B) {s0 : S} (h0 : I 0 s0)
    (hI : ∀ i s, i < n → I i s → I (i + 1) (st i s)) (hF : ∀ self s (i : Nat), i < n → I i s → F self (s, (i : Int)) = self (st i s, ((i + 1 : Nat) : Int)))
    (hE : ∀ self s, I n s → F self (s, (n : Int)) = some (R s)) : loopT BIG F (s0, 0) = some (R ((List.range n).foldl (fun s i => st i s) s0)) := by
  have hr : ∀ {i y : Nat}, (List.range n)[i]? = some y → i < n ∧ y = i := by
    intro i y h
    have hi := (List.getElem?_eq_some_iff.1 h).1
    rw [List.length_range] at hi
    rw [List.getElem?_range hi] at h
    cases h
    exact ⟨hi, rfl⟩
  refine foldLoop (List.range n) (by rw [List.length_range]; exact hl) I (fun s i => st i s) R h0 (fun i s y hy hi => ?_) (fun self s i y hy hi => ?_) (fun self s hs => ?_)
  · obtain ⟨h1, rfl⟩ := hr hy; exact hI _ _ h1 hi
  · obtain ⟨h1, rfl⟩ := hr hy; exact hF _ _ _ h1 hi
  · rw [List.length_range] at hs ⊢; exact hE _ _ hs
theorem fold_snoc {α : Type} (f : Nat → α) (n : Nat) (s : List α) : (List.range n).foldl (fun s i => s ++ [f i]) s = s ++ (List.range n).map f := by
  induction n with
  | zero => simp
  | succ n ih => rw [List.range_succ, List.foldl_append, ih]; simp
theorem lab0Loop (n : Nat) (hn : n ≤ 1000000) {F : (List Int × Int → Option (List Int)) → List Int × Int → Option (List Int)}
    (hF : ∀ self out (i : Nat), i < n → out.length = i → F self (out, (i : Int)) = self (out ++ [(i : Int)], ((i + 1 : Nat) : Int)))
    (hE : ∀ self out, F self (out, (n : Int)) = some out) : loopT BIG F ([], 0) = some (lab0 n) := by
  rw [rangeLoop n (by omega) (fun i (s : List Int) => s.length = i) (fun i s => s ++ [(i : Int)]) id rfl (fun i s _ h => by simp [h]) (fun self s i hi h => hF self s i hi h) (fun self s _ => hE self s), fold_snoc]
  rfl
theorem h_ifirst (n : Nat) (hn : n ≤ 1000000) : g_ifirst (n : Int) = some (lab0 n, ()) := by
  have hm : maxLen = 9223372036854775807 := by decide
  show f_ifirst BIG _ = _
  rw [e_ifirst, lab0Loop n hn]
  · rfl
  · intro self out i hi hl
    simp only [show ((i : Int) < (n : Int)) from by omega, decide_true, cond_true]
    rw [decide_eq_true (by simp; omega), cond_true, wr1 (by omega)]
  · intro self out
    simp
/-- A loop that changes each of a row in its place. -/
theorem mapLoop {α : Type} (a : List α) (f : α → α) (hl : a.length < 18446744073709551616) {F : (List α × Int → Option (List α)) → List α × Int → Option (List α)}
    (hF : ∀ self out (i : Nat) y, out.length = a.length → out[i]? = some y → a[i]? = some y → F self (out, (i : Int)) = self (out.set i (f y), ((i + 1 : Nat) : Int)))
    (hE : ∀ self out, out.length = a.length → F self (out, (a.length : Int)) = some out) : loopT BIG F (a, 0) = some (a.map f) := by
  have := loop_eq (F := F) (fun x => ∃ i : Nat, x.2 = i ∧ i ≤ a.length ∧ x.1 = (a.map f).take i ++ a.drop i) (fun x => a.length - x.2.toNat) (fun _ => a.map f) (fun self x ⟨i, h1, h2, h3⟩ hs => ?_) (n := BIG) (x := (a, 0)) (by simp; exact hl) ⟨0, rfl, by simp, by simp⟩
  · exact this
  · obtain ⟨out, j⟩ := x
    simp only at h1 h3
    subst h1
    have hlen : out.length = a.length := by rw [h3]; simp; omega
    by_cases hi : i < a.length
    · have hy := List.getElem?_eq_getElem hi
      have ho : out[i]? = some a[i] := by
        rw [h3, List.getElem?_append_right (by simp; omega)]
        simp [Nat.min_eq_left (show i ≤ a.length from by omega)]
      rw [hF self out i a[i] hlen ho hy]
      have e := set_take_drop (a := a) (t := a.map f) (i := i) (z := f a[i]) (by simp) hi (by simp [hi])
      rw [← h3] at e
      exact hs _ ⟨i + 1, rfl, hi, e⟩ (by simp; omega)
    · have : i = a.length := by omega
      subst this
      rw [hE self out hlen, h3]
      simp [List.take_of_length_le]
theorem set_self {α : Type} {l : List α} {i : Nat} {y : α} (h : l[i]? = some y) : l.set i y = l := by
  apply List.ext_getElem?
  intro j
  rw [List.getElem?_set]
  split
  · subst j
    have := (List.getElem?_eq_some_iff.1 h).1
    simp [this, h.symm]
  · rfl
theorem h_iunion (l : List Int) (a b : Int) (ha : 0 ≤ a) (ha' : a < l.length) (hb : 0 ≤ b) (hb' : b < l.length) (hl : l.length ≤ 1048576) :
    g_iunion (l, a, b) = some (!decide (l.getD a.toNat 0 = l.getD b.toNat 0), unE l (a, b)) := by
  have hm : maxLen = 9223372036854775807 := by decide
  show f_iunion BIG _ = _
  rw [e_iunion, bnd_ok ha ha', getD_at (by omega), Option.bind_some, bnd_ok hb hb', getD_at (by omega), Option.bind_some]
  unfold unE
  simp only
  generalize l.getD a.toNat 0 = x
  generalize l.getD b.toNat 0 = y
  by_cases h : x = y
  · subst h
    rw [decide_eq_true rfl, cond_true, unL_same]; rfl
  · rw [decide_eq_false h, cond_false, mapLoop l (fun z => if z = (if y > x then y else x) then (if y < x then y else x) else z) (by omega)]
    · rfl
    · intro self out i z hlo ho hz
      have hi := (List.getElem?_eq_some_iff.1 hz).1
      simp only [show ((i : Int) < (l.length : Int)) from by omega, decide_true, cond_true]
      rw [bnd_nat (by omega), ho, Option.bind_some, wr1 (by omega)]
      by_cases hc : z = (if y > x then y else x)
      · rw [decide_eq_true hc, cond_true, bnd_nat (by omega), ho, Option.bind_some, if_pos hc]; rfl
      · rw [decide_eq_false hc, cond_false, if_neg hc, set_self ho]; rfl
    · intro self out hlo
      simp
/-- A byte of a number. -/
def by8 (n : Int) : UInt8 := UInt8.ofNat (n % 256).toNat
def vF : Nat → Nat → List UInt8
  | 0, v => [by8 (v : Int)]
  | k + 1, v => if v ≤ 127 then [by8 (v : Int)] else by8 ((v % 128 + 128 : Nat) : Int) :: vF k (v / 128)
def vB (v : Nat) : List UInt8 := vF 9 v
def e2 (e : Ed) : List UInt8 := [by8 e.1, by8 e.2]
/-- A number read off bytes, of which it takes so many at most; and how many it took. -/
def dec : Nat → List UInt8 → Option (Nat × Nat)
  | 0, _ => none
  | _ + 1, [] => none
  | k + 1, b :: l => if b.toNat < 128 then some (b.toNat, 1) else (dec k l).map fun r => (b.toNat - 128 + 128 * r.1, r.2 + 1)
/-- What is read there, when it is a number in its own bytes. -/
def rdV (l : List UInt8) : Option (Nat × Nat) := match dec 5 l with
  | some (v, m) => if v ≤ 1000000000 ∧ vB v = l.take m then some (v, m) else none
  | none => none
abbrev St := Nat × Bool
def nm (T : List UInt8) (s : St) : Int × St :=
  if s.2 then (0, (s.1, true)) else match rdV (T.drop s.1) with
  | some (v, m) => ((v : Int), (s.1 + m, false))
  | none => (0, (s.1, true))
def on (T : List UInt8) (s : St) : Int × St :=
  if s.2 then (0, (s.1, true)) else match T[s.1]? with
  | some b => ((b.toNat : Int), (s.1 + 1, false))
  | none => (0, (s.1, true))
def edF (T : List UInt8) : Nat → St → List Ed → St × List Ed
  | 0, s, out => (s, out)
  | k + 1, s, out => if s.2 then (s, out) else edF T k (on T (on T s).2).2 (out ++ [((on T s).1, (on T (on T s).2).1)])
def q0 (T : List UInt8) : Int × St := nm T (0, false)
def q1 (T : List UInt8) : Int × St := on T (q0 T).2
def q2 (T : List UInt8) : Int × St := nm T (q1 T).2
def q3 (T : List UInt8) (K : Nat) : St × List Ed := edF T K (nm T (q2 T).2).2 []
def lbF (T : List UInt8) : Nat → St → List Int → St × List Int
  | 0, s, out => (s, out)
  | k + 1, s, out => lbF T k (on T s).2 (out ++ [(on T s).1])
def q4 (T : List UInt8) (K : Nat) : St × List Ed := edF T K (nm T (q1 T).2).2 []
def q5 (T : List UInt8) (K N : Nat) : St × List Int := lbF T N (q4 T K).1 []
theorem h_sl05SameInts (a b : List Int) (ha : a.length ≤ maxLen) : g_sl05SameInts (a, b) = some (decide (a = b), ()) := by
  show f_sl05SameInts BIG _ = _
  rw [e_sl05SameInts]
  by_cases hl : a.length = b.length
  · rw [decide_eq_true (by omega), Bool.not_true, cond_false, eqLoop a b ha hl false]
    · by_cases h : a = b <;> simp [h]
    · intro self i x y hx hy
      have hi := (List.getElem?_eq_some_iff.1 hx).1
      simp only [show ((i : Int) < (a.length : Int)) from by omega, decide_true, cond_true]
      rw [bnd_nat hi, hx, Option.bind_some, bnd_nat (by omega), hy, Option.bind_some, wr1 (by omega)]
      by_cases h1 : x = y <;> simp [h1]
    · intro self
      simp
  · rw [decide_eq_false (by omega), Bool.not_false, cond_true, decide_eq_false (fun h => hl (by rw [h]))]
theorem gD {α : Type} {l : List α} {i : Nat} {y d : α} (h : l[i]? = some y) : l.getD i d = y := by rw [List.getD_eq_getElem?_getD, h]; rfl
theorem w_icopyInts (l : List Int) (h : l.length ≤ 1048576) : g_icopyInts l = some (l, ()) := by
  show f_icopyInts BIG _ = _
  rw [e_icopyInts, decide_eq_true (by omega)]; rfl
/-- A head that is right, and what is known of it. -/
structure HdF (x0 : Int) (x1 : List Int) (x2 : List Ed) (x3 : List (List Int)) (x4 : List Int) (x14 : List Sd) : Prop where
  n : 1 ≤ x0 ∧ x0 ≤ 12
  k : 1 ≤ x3.length ∧ x3.length ≤ 3
  nums : x4.length = x3.length
  own : (x1.length : Int) = x0
  cuts : eOk x0 x2 = true
  said : x14.length ≤ 80
  o1 : ∀ i, i < x1.length → 1 ≤ x1.getD i 0 ∧ x1.getD i 0 ≤ x3.length
  o3 : ∀ i, i < x3.length → lbOk x0 (x3.getD i []) = true ∧ 0 ≤ x4.getD i 0 ∧ x4.getD i 0 ≤ 99991
section
variable {x0 : Int} {x1 : List Int} {x2 : List Ed} {x3 : List (List Int)} {x4 : List Int} {x14 : List Sd}
theorem HdF.at (h : HdF x0 x1 x2 x3 x4 x14) {v : Int} (h1 : 0 ≤ v) (h2 : v ≤ x0 - 1) : v < x1.length ∧ x1[v.toNat]? = some (x1.getD v.toNat 0) ∧ 1 ≤ x1.getD v.toNat 0 ∧ x1.getD v.toNat 0 ≤ x3.length := by
  have ho := h.own
  have := h.o1 v.toNat (by omega)
  exact ⟨by omega, getD_at (by omega), this.1, this.2⟩
end
theorem filt_two {α : Type} (p q : α → Bool) (h : ∀ x, p x = true → q x = true → False) : ∀ l : List α, (l.filter p).length + (l.filter q).length ≤ l.length
  | [] => by simp
  | x :: l => by
    have ih := filt_two p q h l
    rw [List.filter_cons, List.filter_cons, List.length_cons]
    cases hp : p x <;> cases hq : q x <;> simp only [Bool.false_eq_true, if_false, if_true, List.length_cons] <;> first
      | omega
      | exact absurd hq (fun hq => h x hp hq)
theorem ins_le (l : List Ed) (e : Ed) : (ins l e).length ≤ l.length + 1 := by
  unfold ins
  have := filt_two (fun y => lsB y e) (fun y => lsB e y) (fun x h1 h2 => by
    simp only [lsB, Bool.or_eq_true, Bool.and_eq_true, decide_eq_true_eq] at h1 h2
    omega) l
  simp only [List.length_append, List.length_cons, List.length_nil]; omega
theorem loop_bind {X B C : Type} {F : (X → Option B) → X → Option B} (I : X → Prop) (μ : X → Nat) (Q : X → B → Prop) (P : Option C → Prop) {x : X} {k : B → Option C} (hx : μ x < BIG) (hi : I x)
    (h : ∀ self x, I x → (∀ y, I y → μ y < μ x → ∃ b, self y = some b ∧ Q y b) → ∃ b, F self x = some b ∧ Q x b) (hk : ∀ b, Q x b → P (k b)) : P (Option.bind (loopT BIG F x) k) := by
  obtain ⟨b, h1, h2⟩ := loop_rel (F := F) I μ Q h hx hi
  rw [h1]
  exact hk b h2
theorem h_lsameInts (a b : List Int) (ha : a.length ≤ maxLen) : g_lsameInts (a, b) = some (decide (a = b), ()) := by
  rw [← h_sl05SameInts a b ha]
  show f_lsameInts BIG _ = f_sl05SameInts BIG _
  rw [e_lsameInts, e_sl05SameInts]
  all_goals rfl
inductive FT where
  | nil
  | nd (v : Int) (c s : FT)
def FT.vs : FT → List Int
  | .nil => []
  | .nd v c s => v :: (c.vs ++ s.vs)
def FT.sg : FT → Int → List Int
  | .nil, _ => []
  | .nd v c s, r => v :: (c.sg v ++ r :: s.sg r)
def FT.app : FT → FT → FT
  | .nil, g => g
  | .nd v c s, g => .nd v c (s.app g)
def tr (v : Int) (c : FT) : List Int := v :: c.sg v
theorem sg_app (r : Int) (g : FT) : ∀ f : FT, (f.app g).sg r = f.sg r ++ g.sg r
  | .nil => rfl
  | .nd v c s => by
    have := sg_app r g s
    simp [FT.app, FT.sg, this]
theorem vs_app (g : FT) : ∀ f : FT, (f.app g).vs = f.vs ++ g.vs
  | .nil => rfl
  | .nd v c s => by
    have := vs_app g s
    simp [FT.app, FT.vs, this]
theorem sg_len : ∀ (f : FT) (r : Int), (f.sg r).length = 2 * f.vs.length
  | .nil, _ => rfl
  | .nd v c s, r => by
    have := sg_len c v
    have := sg_len s r
    simp only [FT.sg, FT.vs, List.length_cons, List.length_append]; omega
theorem sg_last : ∀ (f : FT) (r : Int), f.sg r = [] ∨ ∃ L, f.sg r = L ++ [r]
  | .nil, _ => .inl rfl
  | .nd v c s, r => by
    right
    rcases sg_last s r with h | ⟨L, h⟩
    · exact ⟨v :: c.sg v, by simp [FT.sg, h]⟩
    · exact ⟨v :: (c.sg v ++ r :: L), by simp [FT.sg, h]⟩
theorem tr_last (v : Int) (c : FT) : ∃ L, tr v c = L ++ [v] := by
  rcases sg_last c v with h | ⟨L, h⟩
  · exact ⟨[], by simp [tr, h]⟩
  · exact ⟨v :: L, by simp [tr, h]⟩
theorem tr_len (v : Int) (c : FT) : (tr v c).length = 2 * c.vs.length + 1 := by
  simp [tr, sg_len]
theorem sg_mem : ∀ (f : FT) (r x : Int), x ∈ f.sg r ↔ x ∈ f.vs ∨ (x = r ∧ f.vs ≠ [])
  | .nil, r, x => by simp [FT.sg, FT.vs]
  | .nd v c s, r, x => by
    have h1 := sg_mem c v x
    have h2 := sg_mem s r x
    simp only [FT.sg, FT.vs, List.mem_cons, List.mem_append, h1, h2]
    constructor
    · rintro (h | (h | ⟨h, _⟩) | h | h | ⟨h, _⟩)
      · exact .inl (.inl h)
      · exact .inl (.inr (.inl h))
      · exact .inl (.inl h)
      · exact .inr ⟨h, by simp⟩
      · exact .inl (.inr (.inr h))
      · exact .inr ⟨h, by simp⟩
    · rintro ((h | h | h) | ⟨h, _⟩)
      · exact .inl h
      · exact .inr (.inl (.inl h))
      · exact .inr (.inr (.inr (.inl h)))
      · exact .inr (.inr (.inl h))
theorem tr_mem (v : Int) (c : FT) (x : Int) : x ∈ tr v c ↔ x ∈ v :: c.vs := by
  simp only [tr, List.mem_cons, sg_mem]
  constructor
  · rintro (h | h | ⟨h, _⟩)
    · exact .inl h
    · exact .inr h
    · exact .inl h
  · rintro (h | h)
    · exact .inl h
    · exact .inr (.inl h)
/-- A right tour. -/
structure TrOk (v : Int) (c : FT) : Prop where
  nd : (v :: c.vs).Nodup
  rg : ∀ x, x ∈ v :: c.vs → 0 ≤ x ∧ x ≤ 11
theorem nodup_le : ∀ (n : Nat) (l : List Int), l.Nodup → (∀ x, x ∈ l → 0 ≤ x ∧ x < n) → l.length ≤ n
  | 0, l, _, h => by
    cases l with
    | nil => simp
    | cons x l => have := h x (List.mem_cons_self ..); omega
  | n + 1, l, hn, h => by
    have h1 := nodup_le n (l.erase (n : Int)) (hn.erase _) (fun x hx => by
      have h2 := (hn.mem_erase_iff).1 hx
      have := h x h2.2
      have := h2.1
      omega)
    have h2 := List.length_erase (a := (n : Int)) (l := l)
    split at h2
    · rw [h2] at h1; omega
    · rw [h2] at h1; omega
theorem TrOk.len {v : Int} {c : FT} (h : TrOk v c) : c.vs.length ≤ 11 := by
  have := nodup_le 12 (v :: c.vs) h.nd (fun x hx => by have := h.rg x hx; omega)
  simp only [List.length_cons] at this
  omega
/-- A loop that looks whether there is one. -/
theorem hiLoop {α B : Type} (a : List α) (hl : a.length < 18446744073709551616) (p : α → Bool) (b : B) {F : (Int → Option (Unit ⊕ B)) → Int → Option (Unit ⊕ B)}
    (hF : ∀ self (i : Nat) y, a[i]? = some y → F self (i : Int) = if p y then some (.inr b) else self ((i + 1 : Nat) : Int))
    (hE : ∀ self, F self (a.length : Int) = some (.inl ())) : loopT BIG F 0 = some (if a.any p = true then .inr b else .inl ()) := by
  refine loop_eq (fun (x : Int) => ∃ i : Nat, x = (i : Int) ∧ i ≤ a.length ∧ ∀ j (hj : j < a.length), j < i → p a[j] = false) (fun x => a.length - x.toNat) (fun _ => _) (fun self x ⟨i, h1, h2, h3⟩ hs => ?_) (n := BIG) (x := 0) (by simp; exact hl) ⟨0, rfl, by simp, fun j _ hj => by omega⟩
  subst h1
  by_cases hi : i < a.length
  · rw [hF self i a[i] (List.getElem?_eq_getElem hi)]
    cases hp : p a[i] with
    | true => rw [if_pos rfl, if_pos (List.any_eq_true.2 ⟨a[i], List.getElem_mem hi, hp⟩)]
    | false =>
      rw [if_neg (by simp)]
      refine hs _ ⟨i + 1, rfl, hi, fun j hj hji => ?_⟩ (by simp; omega)
      by_cases hij : j = i
      · subst hij; exact hp
      · exact h3 j hj (by omega)
  · have : i = a.length := by omega
    subst this
    rw [hE, if_neg]
    intro h
    obtain ⟨y, hy, hp⟩ := List.any_eq_true.1 h
    obtain ⟨j, hj, rfl⟩ := List.getElem_of_mem hy
    rw [h3 j hj hj] at hp; cases hp
inductive De (pa : Int → Int → Prop) (v : Int) : Int → Prop
  | refl : De pa v v
  | step {a x : Int} : De pa v a → pa a x → De pa v x
/-- Edges that are trees: who is whose parent. -/
structure Fo (n : Nat) (es : List Ed) (pa : Int → Int → Prop) (rk : Int → Nat) : Prop where
  rg : ∀ {a b}, pa a b → (0 ≤ a ∧ a < n) ∧ (0 ≤ b ∧ b < n)
  ad : ∀ u v, ((if v < u then (v, u) else (u, v)) ∈ es) ↔ (pa u v ∨ pa v u)
  un : ∀ {a a' b}, pa a b → pa a' b → a = a'
  up : ∀ {a b}, pa a b → rk a < rk b
section
variable {n : Nat} {es : List Ed} {pa : Int → Int → Prop} {rk : Int → Nat} (F : Fo n es pa rk)
include F
theorem Fo.rk_le {v x : Int} (h : De pa v x) : rk v ≤ rk x := by
  induction h with
  | refl => exact Nat.le_refl _
  | step _ h2 ih => have := F.up h2; omega
omit F in
theorem De.trans {u v x : Int} (h : De pa u v) (h2 : De pa v x) : De pa u x := by
  induction h2 with
  | refl => exact h
  | step _ h2 ih => exact .step ih h2
theorem Fo.lin {u w x : Int} (h : De pa u x) : De pa w x → De pa u w ∨ De pa w u := by
  induction h with
  | refl => exact fun h => .inr h
  | step h1 h2 ih =>
    intro hw
    cases hw with
    | refl => exact .inl (.step h1 h2)
    | step g1 g2 =>
      have := F.un h2 g2
      subst this
      exact ih g1
theorem Fo.kids {v u u' x : Int} (h : pa v u) (h' : pa v u') (g : De pa u x) (g' : De pa u' x) : u = u' := by
  have key : ∀ {u u' : Int}, pa v u → pa v u' → De pa u u' → u = u' := by
    intro u u' h h' hd
    cases hd with
    | refl => rfl
    | step g1 g2 =>
      have := F.un h' g2
      subst this
      have := F.rk_le g1
      have := F.up h
      omega
  rcases F.lin g g' with hd | hd
  · exact key h h' hd
  · exact (key h' h hd).symm
/-- What hangs on a vertex but for where it is come from. -/
def Br (pa : Int → Int → Prop) (v fr x : Int) : Prop := fr = -1 ∨ (pa fr v ∧ De pa v x) ∨ (pa v fr ∧ ¬ De pa fr x)
def Nb (pa : Int → Int → Prop) (v fr u : Int) : Prop := u ≠ fr ∧ (pa u v ∨ pa v u)
theorem Fo.irr {v : Int} (h : pa v v) : False := by have := F.up h; omega
theorem Fo.asy {u v : Int} (h : pa u v) (h' : pa v u) : False := by
  have := F.up h
  have := F.up h'
  omega
theorem Fo.br_self {v fr : Int} (h : fr = -1 ∨ pa fr v ∨ pa v fr) : Br pa v fr v := by
  rcases h with h | h | h
  · exact .inl h
  · exact .inr (.inl ⟨h, .refl⟩)
  · refine .inr (.inr ⟨h, fun hd => ?_⟩)
    have := F.rk_le hd
    have := F.up h
    omega
theorem Fo.br_kid {v u x : Int} (h : pa v u) : Br pa u v x ↔ De pa u x := by
  constructor
  · rintro (h1 | ⟨_, h2⟩ | ⟨h1, _⟩)
    · have := (F.rg h).1; omega
    · exact h2
    · exact (F.asy h h1).elim
  · exact fun h2 => .inr (.inl ⟨h, h2⟩)
theorem Fo.br_up {v u x : Int} (h : pa u v) : Br pa u v x ↔ ¬ De pa v x := by
  constructor
  · rintro (h1 | ⟨h1, _⟩ | ⟨_, h2⟩)
    · have := (F.rg h).2; omega
    · exact (F.asy h h1).elim
    · exact h2
  · exact fun h2 => .inr (.inr ⟨h, h2⟩)
theorem Fo.br_sub {v fr u x : Int} (hf : fr = -1 ∨ pa fr v ∨ pa v fr) (hu : Nb pa v fr u) (h : Br pa u v x) : Br pa v fr x ∧ x ≠ v := by
  obtain ⟨hne, hu | hu⟩ := hu
  · rw [F.br_up hu] at h
    refine ⟨?_, fun he => h (he ▸ .refl)⟩
    rcases hf with hf | hf | hf
    · exact .inl hf
    · exact absurd (F.un hu hf) hne
    · exact .inr (.inr ⟨hf, fun hd => h ((De.step .refl hf).trans hd)⟩)
  · rw [F.br_kid hu] at h
    refine ⟨?_, fun he => ?_⟩
    · rcases hf with hf | hf | hf
      · exact .inl hf
      · exact .inr (.inl ⟨hf, (De.step .refl hu).trans h⟩)
      · exact .inr (.inr ⟨hf, fun hd => hne (F.kids hu hf h hd)⟩)
    · subst he
      have := F.rk_le h
      have := F.up hu
      omega
theorem Fo.br_dis {v fr u u' x : Int} (hu : Nb pa v fr u) (hu' : Nb pa v fr u') (h : Br pa u v x) (h' : Br pa u' v x) : u = u' := by
  obtain ⟨_, hu | hu⟩ := hu
  · obtain ⟨_, hu' | hu'⟩ := hu'
    · exact F.un hu hu'
    · rw [F.br_up hu] at h
      rw [F.br_kid hu'] at h'
      exact absurd ((De.step .refl hu').trans h') h
  · obtain ⟨_, hu' | hu'⟩ := hu'
    · rw [F.br_kid hu] at h
      rw [F.br_up hu'] at h'
      exact absurd ((De.step .refl hu).trans h) h'
    · rw [F.br_kid hu] at h
      rw [F.br_kid hu'] at h'
      exact F.kids hu hu' h h'
/-- What a walk makes. -/
def WkP (n : Nat) (pa : Int → Int → Prop) (v fr : Int) (seen : List Bool) (f : FT) (seen' : List Bool) : Prop :=
  seen'.length = n ∧ (v :: f.vs).Nodup ∧ (∀ x, x ∈ v :: f.vs → (0 ≤ x ∧ x < n) ∧ Br pa v fr x) ∧ ∀ x : Nat, x < n → (seen'.getD x false = true ↔ seen.getD x false = true ∨ (x : Int) ∈ v :: f.vs)
omit F in
theorem getD_set_b {l : List Bool} {i j : Nat} (hi : i < l.length) : (l.set i true).getD j false = true ↔ l.getD j false = true ∨ j = i := by
  by_cases h : i = j
  · subst h
    rw [gD (List.getElem?_set_self hi)]
    simp
  · simp only [List.getD_eq_getElem?_getD, List.getElem?_set_ne h]
    constructor
    · exact .inl
    · rintro (h' | h')
      · exact h'
      · exact absurd h'.symm h
theorem w_sl06Walk (hn : n ≤ 12) (hes : es.length ≤ 1048576) : ∀ (d : Nat) (v fr : Int) (seen : List Bool) (W : List Int), seen.length = n → (0 ≤ v ∧ v < n) → (fr = -1 ∨ pa fr v ∨ pa v fr) →
    (∀ x : Nat, x < n → Br pa v fr x → seen.getD x false = false) → W.Nodup → (∀ x, x ∈ W → (0 ≤ x ∧ x < n) ∧ seen.getD x.toNat false = true) → n < W.length + d →
    ∃ f seen', g_sl06Walk d ((n : Int), es, v, fr, seen) = some ((tr v f, false), seen') ∧ WkP n pa v fr seen f seen'
  | 0, v, fr, seen, W, _, _, _, _, hWn, hW, hd => by
    have := nodup_le n W hWn (fun x hx => (hW x hx).1)
    omega
  | d + 1, v, fr, seen, W, hs, hv, hfr, hun, hWn, hW, hd => by
    have hm : maxLen = 9223372036854775807 := by decide
    have hvn : v.toNat < seen.length := by omega
    have hvf : seen.getD v.toNat false = false := hun v.toNat (by omega) (by rw [Int.toNat_of_nonneg hv.1]; exact F.br_self hfr)
    have hvW : v ∉ W := fun h => by
      have := (hW v h).2
      rw [hvf] at this; cases this
    have hW'n : (v :: W).Nodup := List.nodup_cons.2 ⟨hvW, hWn⟩
    show ∃ f seen', f_sl06Walk (g_sl06Walk d) BIG _ = _ ∧ _
    rw [e_sl06Walk]
    rw [bnd_ok hv.1 (by omega), List.getElem?_eq_getElem hvn, Option.bind_some]
    refine loop_bind (P := fun o => ∃ f seen', o = some ((tr v f, false), seen') ∧ WkP n pa v fr seen f seen')
      (fun (x : List Int × List Bool × Int) => ∃ (i : Nat) (f : FT), x.2.2 = (i : Int) ∧ i ≤ n ∧ x.1 = tr v f ∧ x.2.1.length = n ∧ (v :: f.vs).Nodup ∧ (∀ y, y ∈ f.vs → (0 ≤ y ∧ y < n) ∧ ∃ u : Nat, u < i ∧ Nb pa v fr u ∧ Br pa u v y) ∧ ∀ y : Nat, y < n → (x.2.1.getD y false = true ↔ seen.getD y false = true ∨ (y : Int) ∈ v :: f.vs))
      (fun x => n - x.2.2.toNat) (fun _ (b : (List Int × List Bool) ⊕ (List Int × Bool × List Bool)) => ∃ f seen', b = .inl (tr v f, seen') ∧ WkP n pa v fr seen f seen') (by simp [BIG]; omega)
      ⟨0, .nil, rfl, by omega, rfl, by rw [List.length_set]; exact hs, by simp [FT.vs], by simp [FT.vs], fun y hy => ?_⟩ (fun self x hx hself => ?_) (fun b ⟨f, seen', h1, h2⟩ => ?_)
    · rw [getD_set_b hvn]
      simp only [FT.vs, List.mem_cons, List.not_mem_nil, or_false]
      constructor
      · rintro (h | h)
        · exact .inl h
        · exact .inr (by omega)
      · rintro (h | h)
        · exact .inl h
        · exact .inr (by omega)
    · obtain ⟨out, sn, u⟩ := x
      obtain ⟨i, f, h1, h2, h3, h4, h5, h6, h7⟩ := hx
      simp only at h1 h2 h3 h4 h5 h6 h7 hself ⊢
      subst h1 h3
      have hfin : ∀ {j : Nat} {f : FT} {sn : List Bool}, sn.length = n → (v :: f.vs).Nodup → (∀ y, y ∈ f.vs → (0 ≤ y ∧ y < n) ∧ ∃ u : Nat, u < j ∧ Nb pa v fr u ∧ Br pa u v y) → (∀ y : Nat, y < n → (sn.getD y false = true ↔ seen.getD y false = true ∨ (y : Int) ∈ v :: f.vs)) → WkP n pa v fr seen f sn := by
        intro j f sn k1 k2 k3 k4
        refine ⟨k1, k2, fun x hx => ?_, k4⟩
        rw [List.mem_cons] at hx
        rcases hx with rfl | hx
        · exact ⟨hv, F.br_self hfr⟩
        · obtain ⟨g1, u, _, g2, g3⟩ := k3 x hx
          exact ⟨g1, (F.br_sub hfr g2 g3).1⟩
      by_cases hi : i < n
      · have hed : (bif decide (v < (i : Int)) then some (v, (i : Int)) else some ((i : Int), v)) = some (if v < (i : Int) then (v, (i : Int)) else ((i : Int), v)) := by
          by_cases h : v < (i : Int)
          · rw [decide_eq_true h, if_pos h]; rfl
          · rw [decide_eq_false h, if_neg h]; rfl
        simp only [show ((i : Int) < (n : Int)) from by omega, decide_true, cond_true, hed, Option.bind_some]
        have hnext : ∀ {f' : FT} {sn' : List Bool}, sn'.length = n → (v :: f'.vs).Nodup → (∀ y, y ∈ f'.vs → (0 ≤ y ∧ y < n) ∧ ∃ u : Nat, u < i + 1 ∧ Nb pa v fr u ∧ Br pa u v y) → (∀ y : Nat, y < n → (sn'.getD y false = true ↔ seen.getD y false = true ∨ (y : Int) ∈ v :: f'.vs)) →
            ∃ b, self (tr v f', sn', IntKind.wrap .i64 ((i : Int) + 1)) = some b ∧ ∃ f seen', b = .inl (tr v f, seen') ∧ WkP n pa v fr seen f seen' := by
          intro f' sn' k1 k2 k3 k4
          rw [wr1 (by omega)]
          exact hself _ ⟨i + 1, f', rfl, by omega, rfl, k1, k2, k3, k4⟩ (by simp; omega)
        have hskip : ∃ b, self (tr v f, sn, IntKind.wrap .i64 ((i : Int) + 1)) = some b ∧ ∃ f seen', b = .inl (tr v f, seen') ∧ WkP n pa v fr seen f seen' :=
          hnext h4 h5 (fun y hy => by
            obtain ⟨g1, u, g2, g3⟩ := h6 y hy
            exact ⟨g1, u, by omega, g3⟩) h7
        by_cases hif : (i : Int) = fr
        · rw [decide_eq_true hif]
          simp only [cond_true, Option.bind_some]
          exact hskip
        · rw [decide_eq_false hif]
          rw [cond_false, h_sl05Has _ _ (by omega), Option.bind_some]
          by_cases hin : (if v < (i : Int) then (v, (i : Int)) else ((i : Int), v)) ∈ es
          · have hnb : Nb pa v fr i := ⟨hif, (F.ad _ _).1 hin⟩
            have hfr' : v = -1 ∨ pa v i ∨ pa i v := by
              rcases hnb.2 with h | h
              · exact .inr (.inr h)
              · exact .inr (.inl h)
            have hfree : ∀ x : Nat, x < n → Br pa i v x → sn.getD x false = false := by
              intro x hx hb
              obtain ⟨b1, b2⟩ := F.br_sub hfr hnb hb
              cases hg : sn.getD x false with
              | false => rfl
              | true =>
                exfalso
                rcases (h7 x hx).1 hg with h | h
                · rw [hun x hx b1] at h; cases h
                · rw [List.mem_cons] at h
                  rcases h with h | h
                  · exact b2 h
                  · obtain ⟨_, u, u1, u2, u3⟩ := h6 _ h
                    have := F.br_dis u2 hnb u3 hb
                    omega
            have hif2 : sn.getD i false = false := hfree i hi (F.br_self hfr')
            have hil : i < sn.length := by omega
            rw [decide_eq_true hin]
            simp only [Bool.not_true, Option.bind_some, cond_false]
            have hsi : sn[i]? = some false := by
              rw [List.getElem?_eq_getElem hil]
              rw [gD (List.getElem?_eq_getElem hil)] at hif2
              rw [hif2]
            rw [bnd_nat hil, hsi, Option.bind_some, cond_false]
            obtain ⟨g, sn', e1, w1, w2, w3, w4⟩ := w_sl06Walk hn hes d i v sn (v :: W) h4 (by omega) hfr' hfree hW'n (fun x hx => by
              rw [List.mem_cons] at hx
              rcases hx with rfl | hx
              · exact ⟨hv, by rw [h7 x.toNat (by omega), Int.toNat_of_nonneg hv.1]; exact .inr (List.mem_cons_self ..)⟩
              · obtain ⟨x1, x2⟩ := hW x hx
                exact ⟨x1, by rw [h7 x.toNat (by omega)]; exact .inl x2⟩) (by simp only [List.length_cons]; omega)
            have hvl : f.vs.length ≤ 12 := by
              have := nodup_le n (v :: f.vs) h5 (fun x hx => by
                rw [List.mem_cons] at hx
                rcases hx with rfl | hx
                · exact hv
                · exact (h6 x hx).1)
              simp only [List.length_cons] at this; omega
            have hgl : g.vs.length ≤ 12 := by
              have := nodup_le n (_ :: g.vs) w2 (fun x hx => (w3 x hx).1)
              simp only [List.length_cons] at this; omega
            rw [e1, Option.bind_some]
            simp only [cond_false]
            rw [decide_eq_true (by simp only [tr_len]; omega), cond_true, decide_eq_true (by simp only [List.length_append, tr_len, List.length_cons, List.length_nil]; omega), cond_true, Option.bind_some]
            have eo : (tr v f ++ tr i g) ++ [v] = tr v (f.app (.nd i g .nil)) := by simp [tr, sg_app, FT.sg]
            simp only [eo]
            have evs : (f.app (.nd i g .nil)).vs = f.vs ++ ((i : Int) :: g.vs) := by rw [vs_app]; simp [FT.vs]
            refine hnext w1 ?_ (fun y hy => ?_) (fun y hy => ?_)
            · rw [evs]
              have : (v :: (f.vs ++ (i : Int) :: g.vs)) = (v :: f.vs) ++ (i : Int) :: g.vs := rfl
              rw [this, List.nodup_append]
              refine ⟨h5, w2, fun a ha b hb hab => ?_⟩
              subst hab
              have hb' := (w3 a hb).2
              rw [List.mem_cons] at ha
              rcases ha with rfl | ha
              · exact (F.br_sub hfr hnb hb').2 rfl
              · obtain ⟨_, u, u1, u2, u3⟩ := h6 a ha
                have := F.br_dis u2 hnb u3 hb'
                omega
            · rw [evs, List.mem_append] at hy
              rcases hy with hy | hy
              · obtain ⟨g1, u, g2, g3⟩ := h6 y hy
                exact ⟨g1, u, by omega, g3⟩
              · obtain ⟨g1, g2⟩ := w3 y hy
                exact ⟨g1, i, by omega, hnb, g2⟩
            · rw [w4 y hy, h7 y hy, evs]
              simp only [List.mem_cons, List.mem_append]
              constructor
              · rintro ((h | h | h) | h | h)
                · exact .inl h
                · exact .inr (.inl h)
                · exact .inr (.inr (.inl h))
                · exact .inr (.inr (.inr (.inl h)))
                · exact .inr (.inr (.inr (.inr h)))
              · rintro (h | h | h | h | h)
                · exact .inl (.inl h)
                · exact .inl (.inr (.inl h))
                · exact .inl (.inr (.inr h))
                · exact .inr (.inl h)
                · exact .inr (.inr h)
          · rw [decide_eq_false hin]
            simp only [Bool.not_false, Option.bind_some, cond_true]
            exact hskip
      · simp only [show ¬ ((i : Int) < (n : Int)) from by omega, decide_false, cond_false]
        exact ⟨_, rfl, f, sn, rfl, hfin h4 h5 h6 h7⟩
    · subst h1
      exact ⟨f, seen', rfl, h2⟩
end
structure TreeEs (n : Int) (es : List Ed) : Prop where
  rg : ∀ e, e ∈ es → 0 ≤ e.1 ∧ e.1 < e.2 ∧ e.2 < n
  un : ∀ e e', e ∈ es → e' ∈ es → e.2 = e'.2 → e.1 = e'.1
theorem TreeEs.fo {n : Nat} {es : List Ed} (h : TreeEs n es) : Fo n es (fun a b => (a, b) ∈ es) Int.toNat where
  rg := fun {a b} hab => by
    have := h.rg _ hab
    simp only at this
    omega
  ad := fun u v => by
    by_cases hvu : v < u
    · rw [if_pos hvu]
      constructor
      · exact .inr
      · rintro (h1 | h1)
        · have := h.rg _ h1
          simp only at this; omega
        · exact h1
    · rw [if_neg hvu]
      constructor
      · exact .inl
      · rintro (h1 | h1)
        · exact h1
        · have := h.rg _ h1
          simp only at this; omega
  un := fun {a a' b} h1 h2 => h.un _ _ h1 h2 rfl
  up := fun {a b} hab => by
    have := h.rg _ hab
    simp only at this
    omega
theorem h_sl06Tree (c : Cur) (n : Nat) (hc : curOk c) (h1 : 1 ≤ n) (h2 : n ≤ 12) : ∃ es c', g_sl06Tree (c, (n : Int)) = some (es, c') ∧ curOk c' ∧ TreeEs n es ∧ es.length ≤ 12 := by
  have hm : maxLen = 9223372036854775807 := by decide
  show ∃ es c', f_sl06Tree BIG _ = _ ∧ _
  rw [e_sl06Tree]
  refine loop_bind (P := fun o => ∃ es c', o = some (es, c') ∧ curOk c' ∧ TreeEs n es ∧ es.length ≤ 12)
    (fun (x : Cur × List Ed × Int) => ∃ i : Nat, x.2.2 = i ∧ (1 ≤ i ∧ i ≤ n) ∧ curOk x.1 ∧ TreeEs i x.2.1 ∧ x.2.1.length ≤ i) (fun x => n - x.2.2.toNat) (fun _ (b : Cur × List Ed) => curOk b.1 ∧ TreeEs n b.2 ∧ b.2.length ≤ 12) (by simp [BIG]; omega)
    ⟨1, rfl, ⟨by omega, h1⟩, hc, ⟨by simp, by simp⟩, by simp⟩ (fun self x hx hs => ?_) (fun b hb => ⟨_, _, rfl, hb⟩)
  obtain ⟨c, es, v⟩ := x
  obtain ⟨i, g1, g2, g3, g4, g5⟩ := hx
  simp only at g1 g2 g3 g4 g5 hs ⊢
  subst g1
  by_cases hi : i < n
  · simp only [show ((i : Int) < (n : Int)) from by omega, decide_true, cond_true]
    obtain ⟨b, c1, k1, o1⟩ := h_sl01Once c 6 g3 (by omega)
    rw [k1, Option.bind_some]
    cases b with
    | true =>
      simp only [Bool.not_true, cond_false, Option.bind_some]
      rw [wr1 (by omega)]
      exact hs _ ⟨i + 1, rfl, ⟨by omega, by omega⟩, o1, ⟨fun e he => by have := g4.rg e he; omega, g4.un⟩, by simp only; omega⟩ (by simp; omega)
    | false =>
      obtain ⟨r, c2, k2, o2, r1, r2, r3⟩ := h_sl01Below c1 (i : Int) o1 (by omega)
      simp only [Bool.not_false, cond_true, Option.bind_some]
      rw [k2, Option.bind_some]
      simp only
      rw [h_sl05Put _ _ (by omega), Option.bind_some, Option.bind_some, wr1 (by omega)]
      have hil := ins_le es (r, (i : Int))
      have hri := r2 (by omega)
      refine hs _ ⟨i + 1, rfl, ⟨by omega, by omega⟩, o2, ⟨fun e he => ?_, fun e e' he he' hee => ?_⟩, by simp only; omega⟩ (by simp; omega)
      · rcases ins_mem.1 he with rfl | he
        · simp only; omega
        · have := g4.rg e he; omega
      · rcases ins_mem.1 he with rfl | he
        · rcases ins_mem.1 he' with rfl | he'
          · rfl
          · have := g4.rg e' he'
            simp only at hee; omega
        · rcases ins_mem.1 he' with rfl | he'
          · have := g4.rg e he
            simp only at hee; omega
          · exact g4.un e e' he he' hee
  · simp only [show ¬ ((i : Int) < (n : Int)) from by omega, decide_false, cond_false]
    have : i = n := by omega
    subst this
    exact ⟨_, rfl, g3, g4, by simp only; omega⟩
theorem h_sTourOf {n : Nat} {es : List Ed} {pa : Int → Int → Prop} {rk : Int → Nat} (F : Fo n es pa rk) (h1 : 1 ≤ n) (h2 : n ≤ 12) (hes : es.length ≤ 1048576) (hE : ∀ e, e ∈ es → edB n e = true) (r : Int) (hr : 0 ≤ r ∧ r < n) :
    ∃ f, g_sTourOf ((n : Int), es, r) = some ((tr r f, true), ()) ∧ (r :: f.vs).Nodup ∧ ∀ x, x ∈ r :: f.vs → 0 ≤ x ∧ x < n := by
  have hm : maxLen = 9223372036854775807 := by decide
  obtain ⟨f, sn, e1, w1, w2, w3, w4⟩ := w_sl06Walk F h2 hes 64 r (-1) (List.replicate n false) [] (by simp) hr (.inl rfl) (fun x hx _ => by
    rw [gD (List.getElem?_replicate_of_lt hx)]) (by simp) (by simp) (by simp; omega)
  refine ⟨f, ?_, w2, fun x hx => (w3 x hx).1⟩
  show f_sTourOf BIG _ = _
  rw [e_sTourOf, h_sl01In', show inB (n : Int) 1 12 = true from inB_t.2 (by omega), Option.bind_some]
  simp only [Bool.not_true, cond_false]
  rw [wr (n := (n : Int) - 1) (by omega) (by omega), h_sl01In', show inB r 0 ((n : Int) - 1) = true from inB_t.2 (by omega), Option.bind_some, Option.bind_some]
  simp only [Bool.not_true, cond_false]
  rw [hiLoop es (by omega) (fun y => !edB n y) ([], false) (fun self i y hy => ?_) (fun self => by simp)]
  · have : es.any (fun y => !edB n y) = false := by
      rw [List.any_eq_false]
      intro y hy
      rw [hE y hy]; simp
    rw [this]
    simp only [Bool.false_eq_true, if_false, Option.bind_some]
    rw [decide_eq_true (by omega), cond_true, decide_eq_true (by omega), cond_true, Int.toNat_natCast, e1]
    rfl
  · have hi := (List.getElem?_eq_some_iff.1 hy).1
    simp only [show ((i : Int) < (es.length : Int)) from by omega, decide_true, cond_true]
    rw [bnd_nat hi, hy, Option.bind_some, h_sEdgeOk, Option.bind_some, wr1 (by omega)]
    cases edB n y <;> rfl
theorem TreeEs.ed {n : Nat} {es : List Ed} (h : TreeEs n es) (h1 : 1 ≤ n) (h2 : n ≤ 12) : ∀ e, e ∈ es → edB n e = true := by
  intro e he
  have := h.rg e he
  unfold edB
  simp only [Bool.and_eq_true, inB_t, decide_eq_true_eq]
  omega
theorem h_sl06Tour (c : Cur) (hc : curOk c) : ∃ v f c', g_sl06Tour c = some (tr v f, c') ∧ curOk c' ∧ TrOk v f := by
  have hm : maxLen = 9223372036854775807 := by decide
  show ∃ v f c', f_sl06Tour BIG _ = _ ∧ _
  rw [e_sl06Tour]
  obtain ⟨r, c1, k1, o1, r1, r2, _⟩ := h_sl01Below c 12 hc (by omega)
  have := r2 (by omega)
  rw [k1, Option.bind_some]
  simp only
  obtain ⟨m, rfl⟩ : ∃ m : Nat, r = (m : Int) := ⟨r.toNat, by omega⟩
  rw [wr (n := (1 : Int) + (m : Int)) (by omega) (by omega), show (1 : Int) + (m : Int) = ((m + 1 : Nat) : Int) from by omega]
  obtain ⟨es, c2, k2, o2, t1, t2⟩ := h_sl06Tree c1 (m + 1) o1 (by omega) (by omega)
  rw [k2, Option.bind_some]
  obtain ⟨q, c3, k3, o3, q1, q2, _⟩ := h_sl01Below c2 ((m + 1 : Nat) : Int) o2 (by omega)
  have hq := q2 (by omega)
  simp only
  rw [k3, Option.bind_some]
  obtain ⟨f, e1, n1, n2⟩ := h_sTourOf t1.fo (by omega) (by omega) (by omega) (t1.ed (by omega) (by omega)) q ⟨q1, hq⟩
  simp only
  rw [e1, Option.bind_some]
  exact ⟨q, f, c3, rfl, o3, n1, fun x hx => by have := n2 x hx; omega⟩
theorem h_sDrawRightTour (a : List Int) (ha : a.length ≤ 1048576) : ∃ v f x, g_sDrawRightTour a = some ((tr v f, x), ()) ∧ TrOk v f ∧ x ∈ tr v f := by
  show ∃ v f x, f_sDrawRightTour BIG _ = _ ∧ _
  rw [e_sDrawRightTour]
  obtain ⟨c, k0, o0⟩ := h_sl01New a ha
  obtain ⟨v, f, c1, k1, o1, ht⟩ := h_sl06Tour c o0
  have hl := tr_len v f
  have hl2 := ht.len
  obtain ⟨r, c2, k2, o2, r1, r2, _⟩ := h_sl01Below c1 ((tr v f).length : Int) o1 (by omega)
  have hr := r2 (by omega)
  have hrl : r.toNat < (tr v f).length := by omega
  rw [k0, Option.bind_some, k1, Option.bind_some, k2, Option.bind_some, bnd_ok r1 (by omega), List.getElem?_eq_getElem hrl, Option.bind_some]
  exact ⟨v, f, _, rfl, ht, List.getElem_mem _⟩
theorem w_iwithS (l : List Int) (x : Int) (hl : l.length ≤ 1000000) (hso : l.Pairwise (· < ·)) : ∃ l', g_iwith (l, x) = some (l', ()) ∧ (∀ y, y ∈ l' ↔ y = x ∨ y ∈ l) ∧ l'.length ≤ l.length + 1 ∧ l'.Pairwise (· < ·) := by
  have hm : maxLen = 9223372036854775807 := by decide
  have e : g_iwith (l, x) = f_iwith BIG (l, x) := rfl
  rw [e, e_iwith]
  refine loop_bind (P := fun o => ∃ l' : List Int, o = some (l', ()) ∧ (∀ y, y ∈ l' ↔ y = x ∨ y ∈ l) ∧ l'.length ≤ l.length + 1 ∧ l'.Pairwise (· < ·)) (fun (j : Int) => ∃ i : Nat, j = (i : Int) ∧ i ≤ l.length ∧ ∀ y, y ∈ l.take i → y < x) (fun j => l.length - j.toNat) (fun _ (b : Int) => ∃ i : Nat, b = (i : Int) ∧ i ≤ l.length ∧ (∀ y, y ∈ l.take i → y < x) ∧ ∀ (hi : i < l.length), x ≤ l[i]) (by simp [BIG]; omega) ⟨0, rfl, by omega, by simp⟩ (fun self j ⟨i, h1, h2, h3⟩ hs => ?_) (fun b ⟨i, h1, h2, h3, h4⟩ => ?_)
  · subst h1
    by_cases hi : i < l.length
    · simp only [show ((i : Int) < (l.length : Int)) from by omega, decide_true, cond_true]
      rw [bnd_nat hi, List.getElem?_eq_getElem hi, Option.bind_some, Option.bind_some, wr1 (by omega)]
      by_cases hlx : l[i] < x
      · rw [decide_eq_true hlx]
        refine hs _ ⟨i + 1, rfl, hi, fun y hy => ?_⟩ (by simp; omega)
        rw [List.take_succ_eq_append_getElem hi, List.mem_append, List.mem_singleton] at hy
        rcases hy with hy | rfl
        · exact h3 y hy
        · exact hlx
      · rw [decide_eq_false hlx]
        exact ⟨_, rfl, i, rfl, h2, h3, fun _ => by omega⟩
    · simp only [show ¬ ((i : Int) < (l.length : Int)) from by omega, decide_false, cond_false, Option.bind_some]
      exact ⟨_, rfl, i, rfl, h2, h3, fun hi' => absurd hi' hi⟩
  · subst h1
    have fin : (∀ hi : i < l.length, x < l[i]) → ∃ l', (bif decide (0 ≤ (i : Int)) then
   bif decide (0 ≤ (Int.toNat (i : Int)) ∧ (Int.toNat (i : Int)) ≤ l.length) then
    Option.bind (g_icopyInts (List.take ((Int.toNat (i : Int)) - 0) (List.drop 0 l))) fun r9 =>
    bif decide (r9.1.length + [x].length ≤ 4294967296) then
     bif decide (0 ≤ (i : Int)) then
      bif decide ((Int.toNat (i : Int)) ≤ l.length ∧ l.length ≤ l.length) then
       bif decide ((r9.1 ++ [x]).length + (List.take (l.length - (Int.toNat (i : Int))) (List.drop (Int.toNat (i : Int)) l)).length ≤ 4294967296) then
        some ((r9.1 ++ [x]) ++ (List.take (l.length - (Int.toNat (i : Int))) (List.drop (Int.toNat (i : Int)) l)), ())
       else none
      else none
     else none
    else none
   else none
  else none) = some (l', ()) ∧ (∀ y, y ∈ l' ↔ y = x ∨ y ∈ l) ∧ l'.length ≤ l.length + 1 ∧ l'.Pairwise (· < ·) := by
      intro hlt
      have e2 : List.take (l.length - (Int.toNat (i : Int))) (List.drop (Int.toNat (i : Int)) l) = l.drop i := by rw [Int.toNat_natCast]; exact List.take_of_length_le (by simp)
      have e3 : List.take ((Int.toNat (i : Int)) - 0) (List.drop 0 l) = l.take i := by simp
      have c1 : (l.take i).length ≤ 1048576 := by rw [List.length_take]; omega
      have c2 : decide ((l.take i).length + [x].length ≤ 4294967296) = true := decide_eq_true (by rw [List.length_take, List.length_singleton]; omega)
      have c3 : decide ((l.take i ++ [x]).length + (l.drop i).length ≤ 4294967296) = true := decide_eq_true (by rw [List.length_append, List.length_take, List.length_drop, List.length_singleton]; omega)
      have c4 : decide ((0 : Int) ≤ (i : Int)) = true := decide_eq_true (by omega)
      have c5 : decide (0 ≤ Int.toNat (i : Int) ∧ Int.toNat (i : Int) ≤ l.length) = true := decide_eq_true (by omega)
      have c6 : decide (Int.toNat (i : Int) ≤ l.length ∧ l.length ≤ l.length) = true := decide_eq_true (by omega)
      rw [e2, e3, c4, c5, c6, w_icopyInts _ c1]
      simp only [cond_true, Option.bind_some]
      rw [c2, c3]
      refine ⟨_, rfl, fun y => ?_, ?_, ?_⟩
      · have ht : y ∈ l ↔ y ∈ l.take i ∨ y ∈ l.drop i := by
          conv => lhs; rw [← List.take_append_drop i l]
          exact List.mem_append
        rw [List.mem_append, List.mem_append, List.mem_singleton, ht]
        constructor
        · rintro ((h | h) | h)
          · exact .inr (.inl h)
          · exact .inl h
          · exact .inr (.inr h)
        · rintro (h | h | h)
          · exact .inl (.inr h)
          · exact .inl (.inl h)
          · exact .inr h
      · simp only [List.length_append, List.length_take, List.length_drop, List.length_cons, List.length_nil]; omega
      · have hbig : ∀ y, y ∈ l.drop i → x < y := by
          intro y hy
          by_cases hi : i < l.length
          · rw [List.drop_eq_getElem_cons hi, List.mem_cons] at hy
            have h5 := hlt hi
            rcases hy with rfl | hy
            · exact h5
            · have h6 : (l.drop i).Pairwise (· < ·) := hso.sublist (List.drop_sublist _ _)
              rw [List.drop_eq_getElem_cons hi, List.pairwise_cons] at h6
              have := h6.1 y hy
              omega
          · rw [List.drop_eq_nil_of_le (by omega)] at hy; cases hy
        rw [List.pairwise_append, List.pairwise_append]
        refine ⟨⟨hso.sublist (List.take_sublist _ _), by simp, fun a ha b hb => ?_⟩, hso.sublist (List.drop_sublist _ _), fun a ha b hb => ?_⟩
        · rw [List.mem_singleton] at hb; subst hb; exact h3 a ha
        · rw [List.mem_append, List.mem_singleton] at ha
          have := hbig b hb
          rcases ha with ha | rfl
          · have := h3 a ha; omega
          · exact this
    by_cases hi : i < l.length
    · simp only [show ((i : Int) < (l.length : Int)) from by omega, decide_true, cond_true]
      rw [bnd_nat hi, List.getElem?_eq_getElem hi, Option.bind_some, Option.bind_some]
      by_cases hx : l[i] = x
      · rw [decide_eq_true hx, cond_true]
        refine ⟨l, rfl, fun y => ⟨fun h => .inr h, fun h => ?_⟩, by omega, hso⟩
        rcases h with rfl | h
        · rw [← hx]; exact List.getElem_mem hi
        · exact h
      · rw [decide_eq_false hx, cond_false]; exact fin (fun hi => by have := h4 hi; omega)
    · simp only [show ¬ ((i : Int) < (l.length : Int)) from by omega, decide_false, cond_false, Option.bind_some]
      exact fin (fun hi' => absurd hi' hi)
theorem sorted_eq : ∀ {a b : List Int}, a.Pairwise (· < ·) → b.Pairwise (· < ·) → (∀ x, x ∈ a ↔ x ∈ b) → a = b
  | [], [], _, _, _ => rfl
  | [], y :: b, _, _, h => by have := (h y).2 (List.mem_cons_self ..); cases this
  | x :: a, [], _, _, h => by have := (h x).1 (List.mem_cons_self ..); cases this
  | x :: a, y :: b, ha, hb, h => by
    rw [List.pairwise_cons] at ha hb
    have hxy : x = y := by
      have h1 := (h x).1 (List.mem_cons_self ..)
      have h2 := (h y).2 (List.mem_cons_self ..)
      rw [List.mem_cons] at h1 h2
      rcases h1 with h1 | h1
      · exact h1
      · rcases h2 with h2 | h2
        · exact h2.symm
        · have := ha.1 y h2
          have := hb.1 x h1
          omega
    subst hxy
    rw [sorted_eq ha.2 hb.2 (fun z => ?_)]
    constructor
    · intro hz
      have h1 := (h z).1 (List.mem_cons_of_mem _ hz)
      rw [List.mem_cons] at h1
      rcases h1 with rfl | h1
      · have := ha.1 z hz; omega
      · exact h1
    · intro hz
      have h1 := (h z).2 (List.mem_cons_of_mem _ hz)
      rw [List.mem_cons] at h1
      rcases h1 with rfl | h1
      · have := hb.1 z hz; omega
      · exact h1
theorem w_iVertsOf (l : List Int) (hl : l.length ≤ 1000) : ∃ L, g_iVertsOf l = some (L, ()) ∧ L.Pairwise (· < ·) ∧ (∀ x, x ∈ L ↔ x ∈ l) ∧ L.length ≤ l.length := by
  have hm : maxLen = 9223372036854775807 := by decide
  show ∃ L, f_iVertsOf BIG _ = _ ∧ _
  rw [e_iVertsOf]
  refine loop_bind (P := fun o => ∃ L : List Int, o = some (L, ()) ∧ L.Pairwise (· < ·) ∧ (∀ x, x ∈ L ↔ x ∈ l) ∧ L.length ≤ l.length) (fun (s : List Int × Int) => ∃ i : Nat, s.2 = i ∧ i ≤ l.length ∧ s.1.Pairwise (· < ·) ∧ (∀ x, x ∈ s.1 ↔ x ∈ l.take i) ∧ s.1.length ≤ i) (fun s => l.length - s.2.toNat) (fun _ (L : List Int) => L.Pairwise (· < ·) ∧ (∀ x, x ∈ L ↔ x ∈ l) ∧ L.length ≤ l.length) (by simp [BIG]; omega) ⟨0, rfl, by omega, by simp, by simp, by simp⟩ (fun self s hx hs => ?_) (fun b hb => ⟨_, rfl, hb⟩)
  obtain ⟨s, j⟩ := s
  obtain ⟨i, h1, h2, h3, h4, h5⟩ := hx
  simp only at h1 h2 h3 h4 h5 hs ⊢
  subst h1
  by_cases hi : i < l.length
  · simp only [show ((i : Int) < (l.length : Int)) from by omega, decide_true, cond_true]
    obtain ⟨L, k1, k2, k3, k4⟩ := w_iwithS s l[i] (by omega) h3
    rw [bnd_nat hi, List.getElem?_eq_getElem hi, Option.bind_some, k1, Option.bind_some, wr1 (by omega)]
    refine hs _ ⟨i + 1, rfl, hi, k4, fun x => ?_, by simp only; omega⟩ (by simp; omega)
    rw [k2, h4, List.take_succ_eq_append_getElem hi, List.mem_append, List.mem_singleton]
    exact Or.comm
  · simp only [show ¬ ((i : Int) < (l.length : Int)) from by omega, decide_false, cond_false]
    have : i = l.length := by omega
    subst this
    rw [List.take_length] at h4
    exact ⟨_, rfl, h3, h4, h5⟩
theorem tr_closed (v : Int) (c : FT) : (tr v c)[(tr v c).length - 1]? = (tr v c)[0]? := by
  obtain ⟨L, hL⟩ := tr_last v c
  have h0 : (tr v c)[0]? = some v := rfl
  rw [h0, hL]
  simp
theorem bnd0 {l : List Int} {B : Type} {k : Nat → Option B} (h : 0 < l.length) : bnd l.length 0 k = k (Int.toNat 0) := bnd_ok (by omega) (by omega)
theorem h_verts_same {a b : List Int} (ha : a.length ≤ 1000) (hb : b.length ≤ 1000) (h : ∀ x, x ∈ a ↔ x ∈ b) : ∃ L, g_iVertsOf a = some (L, ()) ∧ g_iVertsOf b = some (L, ()) ∧ L.length ≤ 1000 := by
  obtain ⟨L1, m1, s1, i1, l1⟩ := w_iVertsOf a ha
  obtain ⟨L2, m2, s2, i2, l2⟩ := w_iVertsOf b hb
  have : L1 = L2 := sorted_eq s1 s2 fun x => by rw [i1, i2, h]
  subst this
  exact ⟨L1, m1, m2, by omega⟩
/-- A tour at one of its edges: what is below it, and the rest. -/
structure SpF (r : Int) (F : FT) (k : Nat) (X : List Int) (p w : Int) (C : FT) (Y : List Int) (F' : FT) : Prop where
  e1 : tr r F = X ++ p :: (tr w C ++ p :: Y)
  e2 : tr r F' = X ++ p :: Y
  pm : F.vs.Perm ((w :: C.vs) ++ F'.vs)
  at' : k = X.length ∨ k = X.length + (tr w C).length
section
variable {r : Int} {F : FT} {k : Nat} {X : List Int} {p w : Int} {C : FT} {Y : List Int} {F' : FT}
theorem SpF.perm (h : SpF r F k X p w C Y F') : (r :: F.vs).Perm ((w :: C.vs) ++ (r :: F'.vs)) := (List.Perm.cons _ h.pm).trans List.perm_middle.symm
theorem SpF.nd (h : SpF r F k X p w C Y F') (ht : TrOk r F) : TrOk w C ∧ TrOk r F' ∧ ∀ x, x ∈ tr w C → x ∉ tr r F' := by
  have hn := h.perm.nodup_iff.1 ht.nd
  rw [List.nodup_append] at hn
  obtain ⟨n1, n2, n3⟩ := hn
  exact ⟨⟨n1, fun x hx => ht.rg x (h.perm.mem_iff.2 (List.mem_append_left _ hx))⟩, ⟨n2, fun x hx => ht.rg x (h.perm.mem_iff.2 (List.mem_append_right _ hx))⟩,
    fun x hx hx' => n3 x ((tr_mem _ _ _).1 hx) x ((tr_mem _ _ _).1 hx') rfl⟩
theorem SpF.len (h : SpF r F k X p w C Y F') : (tr r F).length = X.length + (tr w C).length + Y.length + 2 ∧ (tr r F').length = X.length + Y.length + 1 := by
  rw [h.e1, h.e2]
  simp only [List.length_append, List.length_cons]
  omega
theorem SpF.out1 (h : SpF r F k X p w C Y F') {m : Nat} (hm : m < X.length) : ∃ x, (tr r F)[m]? = some x ∧ x ∈ tr r F' := by
  refine ⟨X[m], ?_, ?_⟩
  · rw [h.e1, List.getElem?_append_left hm, List.getElem?_eq_getElem hm]
  · rw [h.e2]; exact List.mem_append_left _ (List.getElem_mem _)
theorem SpF.atD (h : SpF r F k X p w C Y F') : (tr r F)[X.length]? = some p := by
  rw [h.e1, List.getElem?_append_right (Nat.le_refl _), Nat.sub_self]; rfl
theorem SpF.inn (h : SpF r F k X p w C Y F') {m : Nat} (hm : m < (tr w C).length) : (tr r F)[X.length + 1 + m]? = (tr w C)[m]? := by
  rw [h.e1, List.getElem?_append_right (by omega), show X.length + 1 + m - X.length = m + 1 from by omega, List.getElem?_cons_succ, List.getElem?_append_left hm]
theorem SpF.atU (h : SpF r F k X p w C Y F') : (tr r F)[X.length + (tr w C).length + 1]? = some p := by
  rw [h.e1, List.getElem?_append_right (by omega), show X.length + (tr w C).length + 1 - X.length = (tr w C).length + 1 from by omega, List.getElem?_cons_succ, List.getElem?_append_right (Nat.le_refl _), Nat.sub_self]; rfl
theorem SpF.out2 (h : SpF r F k X p w C Y F') {m : Nat} (hm : m < Y.length) : ∃ x, (tr r F)[X.length + (tr w C).length + 2 + m]? = some x ∧ x ∈ tr r F' := by
  refine ⟨Y[m], ?_, ?_⟩
  · rw [h.e1, List.getElem?_append_right (by omega), show X.length + (tr w C).length + 2 + m - X.length = ((tr w C).length + 1 + m) + 1 from by omega, List.getElem?_cons_succ, List.getElem?_append_right (by omega), show (tr w C).length + 1 + m - (tr w C).length = m + 1 from by omega, List.getElem?_cons_succ, List.getElem?_eq_getElem hm]
  · rw [h.e2]; exact List.mem_append_right _ (List.mem_cons_of_mem _ (List.getElem_mem _))
/-- In or out at a place. -/
theorem SpF.side (h : SpF r F k X p w C Y F') {m : Nat} (hm : m < (tr r F).length) : ∃ x, (tr r F)[m]? = some x ∧ ((X.length < m ∧ m ≤ X.length + (tr w C).length → x ∈ tr w C) ∧ (¬ (X.length < m ∧ m ≤ X.length + (tr w C).length) → x ∈ tr r F')) := by
  have hl := h.len.1
  have hp : p ∈ tr r F' := by rw [h.e2]; simp
  by_cases h1 : m < X.length
  · obtain ⟨x, a, b⟩ := h.out1 h1
    exact ⟨x, a, fun g => by omega, fun _ => b⟩
  by_cases h2 : m = X.length
  · subst h2; exact ⟨p, h.atD, fun g => by omega, fun _ => hp⟩
  by_cases h3 : m ≤ X.length + (tr w C).length
  · have hlt : m - X.length - 1 < (tr w C).length := by omega
    have := h.inn hlt
    rw [show X.length + 1 + (m - X.length - 1) = m from by omega, List.getElem?_eq_getElem hlt] at this
    exact ⟨_, this, fun _ => List.getElem_mem _, fun g => by omega⟩
  by_cases h4 : m = X.length + (tr w C).length + 1
  · subst h4; exact ⟨p, h.atU, fun g => by omega, fun _ => hp⟩
  · obtain ⟨x, a, b⟩ := h.out2 (m := m - (X.length + (tr w C).length + 2)) (by omega)
    rw [show X.length + (tr w C).length + 2 + (m - (X.length + (tr w C).length + 2)) = m from by omega] at a
    exact ⟨x, a, fun g => by omega, fun _ => b⟩
end
def FT.rts : FT → List Int
  | .nil => []
  | .nd v c s => v :: s.rts
theorem rts_app (g : FT) : ∀ f : FT, (f.app g).rts = f.rts ++ g.rts
  | .nil => rfl
  | .nd v c s => by
    have := rts_app g s
    simp [FT.app, FT.rts, this]
theorem rts_vs : ∀ (g : FT) {x : Int}, x ∈ g.rts → x ∈ g.vs
  | .nil, x, h => h
  | .nd v c s, x, h => by
    simp only [FT.rts, List.mem_cons] at h
    simp only [FT.vs, List.mem_cons, List.mem_append]
    rcases h with h | h
    · exact .inl h
    · exact .inr (.inr (rts_vs s h))
def RtO (pa : Int → Int → Prop) (v fr : Int) (g : FT) : Prop := g.rts.Pairwise (· < ·) ∧ ∀ u, u ∈ g.rts ↔ Nb pa v fr u
def GF (pa : Int → Int → Prop) : FT → Int → Prop
  | .nil, _ => True
  | .nd u c s, v => (RtO pa u v c ∧ GF pa c u) ∧ GF pa s v
theorem GF_app {pa : Int → Int → Prop} {v : Int} {g : FT} : ∀ {f : FT}, GF pa f v → GF pa g v → GF pa (f.app g) v
  | .nil, _, h => h
  | .nd u c s, h, h' => ⟨h.1, GF_app h.2 h'⟩
def QF (pa : Int → Int → Prop) (v fr : Int) (i : Nat) (f : FT) : Prop := f.rts.Pairwise (· < ·) ∧ (∀ u, u ∈ f.rts ↔ Nb pa v fr u ∧ u < i) ∧ GF pa f v
theorem qf_skip {pa : Int → Int → Prop} {v fr : Int} {i : Nat} {f : FT} (h : QF pa v fr i f) (hno : ¬ Nb pa v fr i) : QF pa v fr (i + 1) f := by
  refine ⟨h.1, fun u => ?_, h.2.2⟩
  rw [h.2.1]
  constructor
  · rintro ⟨h1, h2⟩; exact ⟨h1, by omega⟩
  · rintro ⟨h1, h2⟩
    refine ⟨h1, ?_⟩
    by_cases hu : u = (i : Int)
    · subst hu; exact absurd h1 hno
    · omega
theorem qf_put {pa : Int → Int → Prop} {v fr : Int} {i : Nat} {f g : FT} (h : QF pa v fr i f) (hnb : Nb pa v fr i) (hg : RtO pa i v g) (hg' : GF pa g i) : QF pa v fr (i + 1) (f.app (.nd i g .nil)) := by
  refine ⟨?_, fun u => ?_, GF_app h.2.2 ⟨⟨hg, hg'⟩, trivial⟩⟩
  · rw [rts_app]
    simp only [FT.rts]
    rw [List.pairwise_append]
    refine ⟨h.1, by simp, fun a ha b hb => ?_⟩
    rw [List.mem_singleton] at hb
    subst hb
    exact ((h.2.1 a).1 ha).2
  · rw [rts_app, List.mem_append, h.2.1]
    simp only [FT.rts, List.mem_singleton]
    constructor
    · rintro (⟨h1, h2⟩ | rfl)
      · exact ⟨h1, by omega⟩
      · exact ⟨hnb, by omega⟩
    · rintro ⟨h1, h2⟩
      by_cases hu : u = (i : Int)
      · exact .inr hu
      · exact .inl ⟨h1, by omega⟩
def WkQ (n : Nat) (pa : Int → Int → Prop) (v fr : Int) (seen : List Bool) (f : FT) (seen' : List Bool) : Prop :=
  WkP n pa v fr seen f seen' ∧ RtO pa v fr f ∧ GF pa f v
section
variable {n : Nat} {es : List Ed} {pa : Int → Int → Prop} {rk : Int → Nat} (F : Fo n es pa rk)
include F
theorem Fo.nb_rg {v fr u : Int} (h : Nb pa v fr u) : 0 ≤ u ∧ u < n := by
  rcases h.2 with h | h
  · exact (F.rg h).1
  · exact (F.rg h).2
theorem Fo.qf0 {v fr : Int} : QF pa v fr 0 .nil := by
  refine ⟨List.Pairwise.nil, fun u => ?_, trivial⟩
  simp only [FT.rts, List.not_mem_nil, false_iff, not_and]
  intro h
  have := F.nb_rg h
  omega
theorem Fo.qfn {v fr : Int} {f : FT} (h : QF pa v fr n f) : RtO pa v fr f := by
  refine ⟨h.1, fun u => ?_⟩
  rw [h.2.1]
  exact ⟨fun h => h.1, fun h => ⟨h, (F.nb_rg h).2⟩⟩
theorem w_sl06WalkS (hn : n ≤ 12) (hes : es.length ≤ 1048576) : ∀ (d : Nat) (v fr : Int) (seen : List Bool) (W : List Int), seen.length = n → (0 ≤ v ∧ v < n) → (fr = -1 ∨ pa fr v ∨ pa v fr) →
    (∀ x : Nat, x < n → Br pa v fr x → seen.getD x false = false) → W.Nodup → (∀ x, x ∈ W → (0 ≤ x ∧ x < n) ∧ seen.getD x.toNat false = true) → n < W.length + d →
    ∃ f seen', g_sl06Walk d ((n : Int), es, v, fr, seen) = some ((tr v f, false), seen') ∧ WkQ n pa v fr seen f seen'
  | 0, v, fr, seen, W, _, _, _, _, hWn, hW, hd => by
    have := nodup_le n W hWn (fun x hx => (hW x hx).1)
    omega
  | d + 1, v, fr, seen, W, hs, hv, hfr, hun, hWn, hW, hd => by
    have hm : maxLen = 9223372036854775807 := by decide
    have hvn : v.toNat < seen.length := by omega
    have hvf : seen.getD v.toNat false = false := hun v.toNat (by omega) (by rw [Int.toNat_of_nonneg hv.1]; exact F.br_self hfr)
    have hvW : v ∉ W := fun h => by
      have := (hW v h).2
      rw [hvf] at this; cases this
    have hW'n : (v :: W).Nodup := List.nodup_cons.2 ⟨hvW, hWn⟩
    show ∃ f seen', f_sl06Walk (g_sl06Walk d) BIG _ = _ ∧ _
    rw [e_sl06Walk]
    rw [bnd_ok hv.1 (by omega), List.getElem?_eq_getElem hvn, Option.bind_some]
    refine loop_bind (P := fun o => ∃ f seen', o = some ((tr v f, false), seen') ∧ WkQ n pa v fr seen f seen')
      (fun (x : List Int × List Bool × Int) => ∃ (i : Nat) (f : FT), x.2.2 = (i : Int) ∧ i ≤ n ∧ x.1 = tr v f ∧ x.2.1.length = n ∧ (v :: f.vs).Nodup ∧ (∀ y, y ∈ f.vs → (0 ≤ y ∧ y < n) ∧ ∃ u : Nat, u < i ∧ Nb pa v fr u ∧ Br pa u v y) ∧ (∀ y : Nat, y < n → (x.2.1.getD y false = true ↔ seen.getD y false = true ∨ (y : Int) ∈ v :: f.vs)) ∧ QF pa v fr i f)
      (fun x => n - x.2.2.toNat) (fun _ (b : (List Int × List Bool) ⊕ (List Int × Bool × List Bool)) => ∃ f seen', b = .inl (tr v f, seen') ∧ WkQ n pa v fr seen f seen') (by simp [BIG]; omega)
      ⟨0, .nil, rfl, by omega, rfl, by rw [List.length_set]; exact hs, by simp [FT.vs], by simp [FT.vs], fun y hy => ?_, F.qf0⟩ (fun self x hx hself => ?_) (fun b ⟨f, seen', h1, h2⟩ => ?_)
    · rw [getD_set_b hvn]
      simp only [FT.vs, List.mem_cons, List.not_mem_nil, or_false]
      constructor
      · rintro (h | h)
        · exact .inl h
        · exact .inr (by omega)
      · rintro (h | h)
        · exact .inl h
        · exact .inr (by omega)
    · obtain ⟨out, sn, u⟩ := x
      obtain ⟨i, f, h1, h2, h3, h4, h5, h6, h7, h8⟩ := hx
      simp only at h1 h2 h3 h4 h5 h6 h7 h8 hself ⊢
      subst h1 h3
      have hfin : ∀ {j : Nat} {f : FT} {sn : List Bool}, sn.length = n → (v :: f.vs).Nodup → (∀ y, y ∈ f.vs → (0 ≤ y ∧ y < n) ∧ ∃ u : Nat, u < j ∧ Nb pa v fr u ∧ Br pa u v y) → (∀ y : Nat, y < n → (sn.getD y false = true ↔ seen.getD y false = true ∨ (y : Int) ∈ v :: f.vs)) → QF pa v fr n f → WkQ n pa v fr seen f sn := by
        intro j f sn k1 k2 k3 k4 k5
        refine ⟨⟨k1, k2, fun x hx => ?_, k4⟩, F.qfn k5, k5.2.2⟩
        rw [List.mem_cons] at hx
        rcases hx with rfl | hx
        · exact ⟨hv, F.br_self hfr⟩
        · obtain ⟨g1, u, _, g2, g3⟩ := k3 x hx
          exact ⟨g1, (F.br_sub hfr g2 g3).1⟩
      by_cases hi : i < n
      · have hed : (bif decide (v < (i : Int)) then some (v, (i : Int)) else some ((i : Int), v)) = some (if v < (i : Int) then (v, (i : Int)) else ((i : Int), v)) := by
          by_cases h : v < (i : Int)
          · rw [decide_eq_true h, if_pos h]; rfl
          · rw [decide_eq_false h, if_neg h]; rfl
        simp only [show ((i : Int) < (n : Int)) from by omega, decide_true, cond_true, hed, Option.bind_some]
        have hnext : ∀ {f' : FT} {sn' : List Bool}, sn'.length = n → (v :: f'.vs).Nodup → (∀ y, y ∈ f'.vs → (0 ≤ y ∧ y < n) ∧ ∃ u : Nat, u < i + 1 ∧ Nb pa v fr u ∧ Br pa u v y) → (∀ y : Nat, y < n → (sn'.getD y false = true ↔ seen.getD y false = true ∨ (y : Int) ∈ v :: f'.vs)) → QF pa v fr (i + 1) f' →
            ∃ b, self (tr v f', sn', IntKind.wrap .i64 ((i : Int) + 1)) = some b ∧ ∃ f seen', b = .inl (tr v f, seen') ∧ WkQ n pa v fr seen f seen' := by
          intro f' sn' k1 k2 k3 k4 k5
          rw [wr1 (by omega)]
          exact hself _ ⟨i + 1, f', rfl, by omega, rfl, k1, k2, k3, k4, k5⟩ (by simp; omega)
        have hskip : ¬ Nb pa v fr i → ∃ b, self (tr v f, sn, IntKind.wrap .i64 ((i : Int) + 1)) = some b ∧ ∃ f seen', b = .inl (tr v f, seen') ∧ WkQ n pa v fr seen f seen' :=
          fun hno => hnext h4 h5 (fun y hy => by
            obtain ⟨g1, u, g2, g3⟩ := h6 y hy
            exact ⟨g1, u, by omega, g3⟩) h7 (qf_skip h8 hno)
        by_cases hif : (i : Int) = fr
        · rw [decide_eq_true hif]
          simp only [cond_true, Option.bind_some]
          exact hskip (fun h => h.1 hif)
        · rw [decide_eq_false hif]
          rw [cond_false, h_sl05Has _ _ (by omega), Option.bind_some]
          by_cases hin : (if v < (i : Int) then (v, (i : Int)) else ((i : Int), v)) ∈ es
          · have hnb : Nb pa v fr i := ⟨hif, (F.ad _ _).1 hin⟩
            have hfr' : v = -1 ∨ pa v i ∨ pa i v := by
              rcases hnb.2 with h | h
              · exact .inr (.inr h)
              · exact .inr (.inl h)
            have hfree : ∀ x : Nat, x < n → Br pa i v x → sn.getD x false = false := by
              intro x hx hb
              obtain ⟨b1, b2⟩ := F.br_sub hfr hnb hb
              cases hg : sn.getD x false with
              | false => rfl
              | true =>
                exfalso
                rcases (h7 x hx).1 hg with h | h
                · rw [hun x hx b1] at h; cases h
                · rw [List.mem_cons] at h
                  rcases h with h | h
                  · exact b2 h
                  · obtain ⟨_, u, u1, u2, u3⟩ := h6 _ h
                    have := F.br_dis u2 hnb u3 hb
                    omega
            have hif2 : sn.getD i false = false := hfree i hi (F.br_self hfr')
            have hil : i < sn.length := by omega
            rw [decide_eq_true hin]
            simp only [Bool.not_true, Option.bind_some, cond_false]
            have hsi : sn[i]? = some false := by
              rw [List.getElem?_eq_getElem hil]
              rw [gD (List.getElem?_eq_getElem hil)] at hif2
              rw [hif2]
            rw [bnd_nat hil, hsi, Option.bind_some, cond_false]
            obtain ⟨g, sn', e1, ⟨w1, w2, w3, w4⟩, w5, w6⟩ := w_sl06WalkS hn hes d i v sn (v :: W) h4 (by omega) hfr' hfree hW'n (fun x hx => by
              rw [List.mem_cons] at hx
              rcases hx with rfl | hx
              · exact ⟨hv, by rw [h7 x.toNat (by omega), Int.toNat_of_nonneg hv.1]; exact .inr (List.mem_cons_self ..)⟩
              · obtain ⟨x1, x2⟩ := hW x hx
                exact ⟨x1, by rw [h7 x.toNat (by omega)]; exact .inl x2⟩) (by simp only [List.length_cons]; omega)
            have hvl : f.vs.length ≤ 12 := by
              have := nodup_le n (v :: f.vs) h5 (fun x hx => by
                rw [List.mem_cons] at hx
                rcases hx with rfl | hx
                · exact hv
                · exact (h6 x hx).1)
              simp only [List.length_cons] at this; omega
            have hgl : g.vs.length ≤ 12 := by
              have := nodup_le n (_ :: g.vs) w2 (fun x hx => (w3 x hx).1)
              simp only [List.length_cons] at this; omega
            rw [e1, Option.bind_some]
            simp only [cond_false]
            rw [decide_eq_true (by simp only [tr_len]; omega), cond_true, decide_eq_true (by simp only [List.length_append, tr_len, List.length_cons, List.length_nil]; omega), cond_true, Option.bind_some]
            have eo : (tr v f ++ tr i g) ++ [v] = tr v (f.app (.nd i g .nil)) := by simp [tr, sg_app, FT.sg]
            simp only [eo]
            have evs : (f.app (.nd i g .nil)).vs = f.vs ++ ((i : Int) :: g.vs) := by rw [vs_app]; simp [FT.vs]
            refine hnext w1 ?_ (fun y hy => ?_) (fun y hy => ?_) (qf_put h8 hnb w5 w6)
            · rw [evs]
              have : (v :: (f.vs ++ (i : Int) :: g.vs)) = (v :: f.vs) ++ (i : Int) :: g.vs := rfl
              rw [this, List.nodup_append]
              refine ⟨h5, w2, fun a ha b hb hab => ?_⟩
              subst hab
              have hb' := (w3 a hb).2
              rw [List.mem_cons] at ha
              rcases ha with rfl | ha
              · exact (F.br_sub hfr hnb hb').2 rfl
              · obtain ⟨_, u, u1, u2, u3⟩ := h6 a ha
                have := F.br_dis u2 hnb u3 hb'
                omega
            · rw [evs, List.mem_append] at hy
              rcases hy with hy | hy
              · obtain ⟨g1, u, g2, g3⟩ := h6 y hy
                exact ⟨g1, u, by omega, g3⟩
              · obtain ⟨g1, g2⟩ := w3 y hy
                exact ⟨g1, i, by omega, hnb, g2⟩
            · rw [w4 y hy, h7 y hy, evs]
              simp only [List.mem_cons, List.mem_append]
              constructor
              · rintro ((h | h | h) | h | h)
                · exact .inl h
                · exact .inr (.inl h)
                · exact .inr (.inr (.inl h))
                · exact .inr (.inr (.inr (.inl h)))
                · exact .inr (.inr (.inr (.inr h)))
              · rintro (h | h | h | h | h)
                · exact .inl (.inl h)
                · exact .inl (.inr (.inl h))
                · exact .inl (.inr (.inr h))
                · exact .inr (.inl h)
                · exact .inr (.inr h)
          · rw [decide_eq_false hin]
            simp only [Bool.not_false, Option.bind_some, cond_true]
            exact hskip (fun h => hin ((F.ad _ _).2 h.2))
      · simp only [show ¬ ((i : Int) < (n : Int)) from by omega, decide_false, cond_false]
        have hin : i = n := by omega
        subst hin
        exact ⟨_, rfl, f, sn, rfl, hfin h4 h5 h6 h7 h8⟩
    · subst h1
      exact ⟨f, seen', rfl, h2⟩
theorem h_sTourOfS (h1 : 1 ≤ n) (h2 : n ≤ 12) (hes : es.length ≤ 1048576) (hE : ∀ e, e ∈ es → edB n e = true) (r : Int) (hr : 0 ≤ r ∧ r < n) :
    ∃ f, g_sTourOf ((n : Int), es, r) = some ((tr r f, true), ()) ∧ (r :: f.vs).Nodup ∧ (∀ x, x ∈ r :: f.vs → 0 ≤ x ∧ x < n) ∧ RtO pa r (-1) f ∧ GF pa f r := by
  have hm : maxLen = 9223372036854775807 := by decide
  obtain ⟨f, sn, e1, ⟨w1, w2, w3, w4⟩, w5, w6⟩ := w_sl06WalkS F h2 hes 64 r (-1) (List.replicate n false) [] (by simp) hr (.inl rfl) (fun x hx _ => by
    rw [gD (List.getElem?_replicate_of_lt hx)]) (by simp) (by simp) (by simp; omega)
  refine ⟨f, ?_, w2, fun x hx => (w3 x hx).1, w5, w6⟩
  show f_sTourOf BIG _ = _
  rw [e_sTourOf, h_sl01In', show inB (n : Int) 1 12 = true from inB_t.2 (by omega), Option.bind_some]
  simp only [Bool.not_true, cond_false]
  rw [wr (n := (n : Int) - 1) (by omega) (by omega), h_sl01In', show inB r 0 ((n : Int) - 1) = true from inB_t.2 (by omega), Option.bind_some, Option.bind_some]
  simp only [Bool.not_true, cond_false]
  rw [hiLoop es (by omega) (fun y => !edB n y) ([], false) (fun self i y hy => ?_) (fun self => by simp)]
  · have : es.any (fun y => !edB n y) = false := by
      rw [List.any_eq_false]
      intro y hy
      rw [hE y hy]; simp
    rw [this]
    simp only [Bool.false_eq_true, if_false, Option.bind_some]
    rw [decide_eq_true (by omega), cond_true, decide_eq_true (by omega), cond_true, Int.toNat_natCast, e1]
    rfl
  · have hi := (List.getElem?_eq_some_iff.1 hy).1
    simp only [show ((i : Int) < (es.length : Int)) from by omega, decide_true, cond_true]
    rw [bnd_nat hi, hy, Option.bind_some, h_sEdgeOk, Option.bind_some, wr1 (by omega)]
    cases edB n y <;> rfl
end
theorem edB_f {n : Nat} {e : Ed} (h : edB n e = true) : 0 ≤ e.1 ∧ e.1 < e.2 ∧ e.2 < n := by
  unfold edB at h
  simp only [Bool.and_eq_true, inB_t, decide_eq_true_eq] at h
  omega
section
variable {n : Nat} {es : List Ed} {pa : Int → Int → Prop} {rk : Int → Nat} (F : Fo n es pa rk) (hE : ∀ e, e ∈ es → edB n e = true)
include F hE
theorem Fo.mem_pa {x y : Int} : (x, y) ∈ es ↔ x < y ∧ (pa x y ∨ pa y x) := by
  constructor
  · intro h
    have h1 := edB_f (hE _ h)
    simp only at h1
    have := (F.ad y x).1 (by rw [if_pos h1.2.1]; exact h)
    exact ⟨h1.2.1, this.symm⟩
  · rintro ⟨h1, h2⟩
    have := (F.ad y x).2 h2.symm
    rwa [if_pos h1] at this
theorem Fo.nxt_iff {v fr x : Int} : (∃ e, e ∈ es ∧ ((e.1 = v ∧ e.2 ≠ fr ∧ x = e.2) ∨ (e.2 = v ∧ e.1 ≠ fr ∧ x = e.1))) ↔ Nb pa v fr x := by
  constructor
  · rintro ⟨⟨a, b⟩, he, ⟨h1, h2, h3⟩ | ⟨h1, h2, h3⟩⟩
    · simp only at h1 h2 h3
      subst h1 h3
      exact ⟨h2, ((F.mem_pa hE).1 he).2.symm⟩
    · simp only at h1 h2 h3
      subst h1 h3
      exact ⟨h2, ((F.mem_pa hE).1 he).2⟩
  · rintro ⟨h1, h2⟩
    have hne : x ≠ v := by
      rintro rfl
      rcases h2 with h2 | h2 <;> exact F.irr h2
    by_cases hlt : v < x
    · exact ⟨(v, x), (F.mem_pa hE).2 ⟨hlt, h2.symm⟩, .inl ⟨rfl, h1, rfl⟩⟩
    · exact ⟨(x, v), (F.mem_pa hE).2 ⟨by omega, h2⟩, .inr ⟨rfl, h1, rfl⟩⟩
/-- The program's walk. -/
theorem w_iwalk (hes : es.length ≤ 1000) : ∀ (d : Nat) (v fr : Int) (g : FT), RtO pa v fr g → GF pa g v → g.vs.length < d → g.vs.length ≤ 1000 → g_iwalk d (es, v, fr) = some (tr v g, ())
  | 0, v, fr, g, _, _, h, _ => by omega
  | d + 1, v, fr, g, hR, hG, hd, hg1 => by
    have hm : maxLen = 9223372036854775807 := by decide
    show f_iwalk (g_iwalk d) BIG _ = _
    rw [e_iwalk]
    refine loop_bind (P := fun o => o = some (tr v g, ())) (fun (s : List Int × Int) => ∃ i : Nat, s.2 = (i : Int) ∧ i ≤ es.length ∧ s.1.Pairwise (· < ·) ∧ s.1.length ≤ 2 * i ∧ ∀ x, x ∈ s.1 ↔ ∃ e, e ∈ es.take i ∧ ((e.1 = v ∧ e.2 ≠ fr ∧ x = e.2) ∨ (e.2 = v ∧ e.1 ≠ fr ∧ x = e.1))) (fun s => es.length - s.2.toNat) (fun _ (b : List Int) => b = g.rts) (by simp [BIG]; omega) ⟨0, rfl, by omega, by simp, by simp, by simp⟩ (fun self s hx hs => ?_) (fun b hb => ?_)
    · obtain ⟨s, j⟩ := s
      obtain ⟨i, h1, h2, h3, h4, h5⟩ := hx
      simp only at h1 h2 h3 h4 h5 hs ⊢
      subst h1
      by_cases hi : i < es.length
      · simp only [show ((i : Int) < (es.length : Int)) from by omega, decide_true, cond_true]
        rw [bnd_nat hi, List.getElem?_eq_getElem hi, Option.bind_some]
        have hlt := edB_f (hE _ (List.getElem_mem hi))
        have htk : ∀ {p : Ed → Prop}, (∃ e, e ∈ es.take (i + 1) ∧ p e) ↔ (∃ e, e ∈ es.take i ∧ p e) ∨ p es[i] := by
          intro p
          rw [List.take_succ_eq_append_getElem hi]
          constructor
          · rintro ⟨e, he, hp⟩
            rw [List.mem_append, List.mem_singleton] at he
            rcases he with he | rfl
            · exact .inl ⟨e, he, hp⟩
            · exact .inr hp
          · rintro (⟨e, he, hp⟩ | hp)
            · exact ⟨e, List.mem_append_left _ he, hp⟩
            · exact ⟨_, List.mem_append_right _ (List.mem_singleton.2 rfl), hp⟩
        have next : ∀ s' : List Int, s'.Pairwise (· < ·) → s'.length ≤ s.length + 2 → (∀ x, x ∈ s' ↔ x ∈ s ∨ ((es[i].1 = v ∧ es[i].2 ≠ fr ∧ x = es[i].2) ∨ (es[i].2 = v ∧ es[i].1 ≠ fr ∧ x = es[i].1))) → ∃ b, self (s', IntKind.wrap .i64 ((i : Int) + 1)) = some b ∧ b = g.rts := by
          intro s' k1 k2 k3
          rw [wr1 (by omega)]
          exact hs _ ⟨i + 1, rfl, hi, k1, by simp only; omega, fun x => by rw [htk, ← h5, k3]⟩ (by simp; omega)
        generalize es[i] = e at hlt next
        by_cases c1 : e.1 = v
        · have c2 : ¬ e.2 = v := by omega
          rw [decide_eq_true c1, cond_true]
          simp only [Option.bind_some]
          by_cases c3 : e.2 = fr
          · rw [decide_eq_true c3]
            simp only [Bool.not_true, cond_false, Option.bind_some, decide_eq_false c2]
            refine next s h3 (by omega) fun x => ?_
            constructor
            · exact .inl
            · rintro (h | ⟨_, h, _⟩ | ⟨h, _⟩)
              · exact h
              · exact absurd c3 h
              · exact absurd h c2
          · obtain ⟨s1, m1, m2, m3, m4⟩ := w_iwithS s e.2 (by omega) h3
            rw [decide_eq_false c3]
            simp only [Bool.not_false, cond_true, m1, cond_false, Option.bind_some, decide_eq_false c2]
            refine next s1 m4 (by omega) fun x => ?_
            rw [m2]
            constructor
            · rintro (h | h)
              · exact .inr (.inl ⟨c1, c3, h⟩)
              · exact .inl h
            · rintro (h | ⟨_, _, h⟩ | ⟨h, _⟩)
              · exact .inr h
              · exact .inl h
              · exact absurd h c2
        · rw [decide_eq_false c1, cond_false]
          simp only [Option.bind_some, cond_false]
          by_cases c2 : e.2 = v
          · rw [decide_eq_true c2, cond_true]
            by_cases c3 : e.1 = fr
            · rw [decide_eq_true c3]
              simp only [Bool.not_true, cond_false, Option.bind_some]
              refine next s h3 (by omega) fun x => ?_
              constructor
              · exact .inl
              · rintro (h | ⟨h, _⟩ | ⟨_, h, _⟩)
                · exact h
                · exact absurd h c1
                · exact absurd c3 h
            · obtain ⟨s1, m1, m2, m3, m4⟩ := w_iwithS s e.1 (by omega) h3
              rw [decide_eq_false c3]
              simp only [Bool.not_false, cond_true, m1, Option.bind_some]
              refine next s1 m4 (by omega) fun x => ?_
              rw [m2]
              constructor
              · rintro (h | h)
                · exact .inr (.inr ⟨c2, c3, h⟩)
                · exact .inl h
              · rintro (h | ⟨h, _⟩ | ⟨_, _, h⟩)
                · exact .inr h
                · exact absurd h c1
                · exact .inl h
          · rw [decide_eq_false c2, cond_false]
            simp only [Option.bind_some, cond_false]
            refine next s h3 (by omega) fun x => ?_
            constructor
            · exact .inl
            · rintro (h | ⟨h, _⟩ | ⟨h, _⟩)
              · exact h
              · exact absurd h c1
              · exact absurd h c2
      · simp only [show ¬ ((i : Int) < (es.length : Int)) from by omega, decide_false, cond_false]
        have : i = es.length := by omega
        subst this
        rw [List.take_length] at h5
        exact ⟨_, rfl, sorted_eq h3 hR.1 fun x => by rw [h5, hR.2, F.nxt_iff hE]⟩
    · subst hb
      have hgl := tr_len v g
      have hrl : g.rts.length ≤ g.vs.length := by
        have : ∀ g : FT, g.rts.length ≤ g.vs.length := by
          intro g
          induction g with
          | nil => simp [FT.rts]
          | nd v c s _ ih => simp only [FT.rts, FT.vs, List.length_cons, List.length_append]; omega
        exact this g
      refine loop_bind (P := fun o => o = some (tr v g, ())) (fun (x : List Int × Int) => ∃ (j : Nat) (s : FT), x.2 = (j : Int) ∧ j ≤ g.rts.length ∧ s.rts = g.rts.drop j ∧ GF pa s v ∧ x.1 ++ s.sg v = tr v g ∧ s.vs.length ≤ g.vs.length) (fun x => g.rts.length - x.2.toNat) (fun _ (b : List Int) => b = tr v g) (by simp [BIG]; omega) ⟨0, g, rfl, by omega, rfl, hG, rfl, by omega⟩ (fun self x hx hs => ?_) (fun b hb => by rw [hb])
      obtain ⟨out, jj⟩ := x
      obtain ⟨j, s, h1, h2, h3, h4, h5, h6⟩ := hx
      simp only at h1 h2 h3 h4 h5 h6 hs ⊢
      subst h1
      by_cases hj : j < g.rts.length
      · simp only [show ((j : Int) < (g.rts.length : Int)) from by omega, decide_true, cond_true]
        rw [List.drop_eq_getElem_cons hj] at h3
        cases s with
        | nil => cases h3
        | nd u c s' =>
          simp only [FT.rts, List.cons.injEq] at h3
          obtain ⟨h3a, h3b⟩ := h3
          obtain ⟨⟨hRc, hGc⟩, hGs⟩ := h4
          simp only [FT.vs, List.length_cons, List.length_append] at h6
          have hc := w_iwalk hes d u v c hRc hGc (by omega) (by omega)
          have ho := congrArg List.length h5
          rw [List.length_append] at ho
          have hcl := tr_len u c
          rw [bnd_nat hj, List.getElem?_eq_getElem hj, Option.bind_some, ← h3a, hc, Option.bind_some]
          simp only
          rw [decide_eq_true (by omega), cond_true, decide_eq_true (by simp only [List.length_append, List.length_cons, List.length_nil]; omega), cond_true, wr1 (by omega)]
          refine hs _ ⟨j + 1, s', rfl, hj, h3b, hGs, ?_, by omega⟩ (by simp; omega)
          simp only
          rw [← h5]
          simp [FT.sg, tr]
      · simp only [show ¬ ((j : Int) < (g.rts.length : Int)) from by omega, decide_false, cond_false]
        rw [List.drop_eq_nil_of_le (by omega)] at h3
        cases s with
        | nil =>
          simp only [FT.sg, List.append_nil] at h5
          exact ⟨_, rfl, h5⟩
        | nd u c s' => simp [FT.rts] at h3
/-- Trees have no rings. -/
theorem Fo.noring (hnd : es.Nodup) (i : Nat) (hi : i < es.length) : ¬ Con (es.take i) es[i].1 es[i].2 := by
  intro hc
  have hmem := List.getElem_mem hi
  have hnot : es[i] ∉ es.take i := by
    have h := hnd
    rw [← List.take_append_drop i es, List.nodup_append] at h
    intro hin
    exact h.2.2 _ hin _ (by rw [List.drop_eq_getElem_cons hi]; exact List.mem_cons_self ..) rfl
  generalize es[i] = e at hc hmem hnot
  obtain ⟨a, b⟩ := e
  simp only at hc
  have main : ∀ {p c : Int}, pa p c → Con (es.take i) c p → ((a, b) = (p, c) ∨ (a, b) = (c, p)) → False := by
    intro p c hpc hcon hab
    obtain ⟨x, y, d1, d2, d3⟩ := con_step (D := De pa c) hcon .refl (fun hd => by
      have := F.rk_le hd
      have := F.up hpc
      omega)
    have hsub : ∀ e, e ∈ es.take i → e ∈ es := fun e he => List.mem_of_mem_take he
    have hadj : pa x y ∨ pa y x := by
      rcases d3 with d3 | d3
      · exact ((F.mem_pa hE).1 (hsub _ d3)).2
      · exact ((F.mem_pa hE).1 (hsub _ d3)).2.symm
    rcases hadj with h | h
    · exact d2 (.step d1 h)
    · cases d1 with
      | refl =>
        have hyp := F.un h hpc
        subst hyp
        rcases d3 with d3 | d3
        · have h1 := ((F.mem_pa hE).1 (hsub _ d3)).1
          have h2 := ((F.mem_pa hE).1 hmem).1
          rcases hab with hab | hab
          · cases hab; omega
          · exact hnot (hab ▸ d3)
        · have h1 := ((F.mem_pa hE).1 (hsub _ d3)).1
          have h2 := ((F.mem_pa hE).1 hmem).1
          rcases hab with hab | hab
          · exact hnot (hab ▸ d3)
          · cases hab; omega
      | step g1 g2 =>
        have := F.un h g2
        subst this
        exact d2 g1
  rcases ((F.mem_pa hE).1 hmem).2 with h | h
  · exact main h hc.symm (.inl rfl)
  · exact main h hc (.inr rfl)
end
theorem w_irings (n : Nat) (es : List Ed) (h1 : 1 ≤ n) (hn : n ≤ 12) (hes : es.length ≤ 1000) (hE : ∀ e, e ∈ es → edB n e = true) :
    ∃ b, g_irings ((n : Int), es) = some (b, ()) ∧ (b = true ↔ ∃ i, ∃ hi : i < es.length, Con (es.take i) es[i].1 es[i].2) := by
  have hm : maxLen = 9223372036854775807 := by decide
  show ∃ b, f_irings BIG _ = _ ∧ _
  rw [e_irings, h_ifirst n (by omega), Option.bind_some]
  refine loop_bind (P := fun o => ∃ b, o = some (b, ()) ∧ (b = true ↔ ∃ i, ∃ hi : i < es.length, Con (es.take i) es[i].1 es[i].2)) (fun (s : List Int × Int) => ∃ i : Nat, s.2 = (i : Int) ∧ i ≤ es.length ∧ Lab n (es.take i) s.1 ∧ ∀ k, k < i → ∀ hk : k < es.length, ¬ Con (es.take k) es[k].1 es[k].2) (fun s => es.length - s.2.toNat) (fun _ (b : Unit ⊕ Bool) => (b = .inl () ∧ ∀ k (hk : k < es.length), ¬ Con (es.take k) es[k].1 es[k].2) ∨ (b = .inr true ∧ ∃ i, ∃ hi : i < es.length, Con (es.take i) es[i].1 es[i].2)) (by simp [BIG]; omega) ⟨0, rfl, by omega, Lab.zero n, fun k hk => by omega⟩ (fun self s hx hs => ?_) (fun b hb => ?_)
  · obtain ⟨l, j⟩ := s
    obtain ⟨i, h3, h4, h5, h6⟩ := hx
    simp only at h3 h4 h5 h6 hs ⊢
    subst h3
    by_cases hi : i < es.length
    · simp only [show ((i : Int) < (es.length : Int)) from by omega, decide_true, cond_true]
      have he := edB_f (hE _ (List.getElem_mem hi))
      have hll := h5.1
      rw [bnd_nat hi, List.getElem?_eq_getElem hi, Option.bind_some, h_iunion l es[i].1 es[i].2 he.1 (by omega) (by omega) (by omega) (by omega), Option.bind_some]
      have hiff := h5.iff (getD_at (show es[i].1.toNat < l.length by omega)) (getD_at (show es[i].2.toNat < l.length by omega))
      rw [Int.toNat_of_nonneg he.1, Int.toNat_of_nonneg (by omega : 0 ≤ es[i].2)] at hiff
      by_cases hq : l.getD es[i].1.toNat 0 = l.getD es[i].2.toNat 0
      · rw [decide_eq_true hq]
        exact ⟨_, rfl, .inr ⟨rfl, i, hi, hiff.1 hq⟩⟩
      · rw [decide_eq_false hq]
        simp only [Bool.not_false, Bool.not_true, cond_false]
        rw [wr1 (by omega)]
        refine hs _ ⟨i + 1, rfl, hi, ?_, fun k hk hk' => ?_⟩ (by simp; omega)
        · rw [List.take_succ_eq_append_getElem hi]
          exact h5.unE (e := es[i]) ⟨he.1, by omega, by omega, he.2.2⟩
        · by_cases hki : k = i
          · subst hki; exact fun hc => hq (hiff.2 hc)
          · exact h6 k (by omega) hk'
    · simp only [show ¬ ((i : Int) < (es.length : Int)) from by omega, decide_false, cond_false]
      exact ⟨_, rfl, .inl ⟨rfl, fun k hk => h6 k (by omega) hk⟩⟩
  · rcases hb with ⟨rfl, h⟩ | ⟨rfl, h⟩
    · exact ⟨false, rfl, ⟨(fun h => by cases h), fun ⟨i, hi, hc⟩ => absurd hc (h i hi)⟩⟩
    · exact ⟨true, rfl, ⟨fun _ => h, fun _ => rfl⟩⟩
theorem iTourOf_pre {n : Nat} {es : List Ed} (h1 : 1 ≤ n) (h2 : n ≤ 12) (hes : es.length ≤ 1000) (hE : ∀ e, e ∈ es → edB n e = true) (r : Int) (hr : 0 ≤ r ∧ r < n) {b : Bool} (hb : g_irings ((n : Int), es) = some (b, ())) :
    g_iTourOf ((n : Int), es, r) = (bif b then some (([], false), ()) else Option.bind (g_iwalk 64 (es, r, (-1 : Int))) fun r10 => some ((r10.1, true), ())) := by
  have hm : maxLen = 9223372036854775807 := by decide
  show f_iTourOf BIG _ = _
  rw [e_iTourOf, h_iin', show inB (n : Int) 1 12 = true from inB_t.2 (by omega), Option.bind_some]
  simp only [Bool.not_true, cond_false]
  rw [wr (n := (n : Int) - 1) (by omega) (by omega), h_iin', show inB r 0 ((n : Int) - 1) = true from inB_t.2 (by omega), Option.bind_some, Option.bind_some]
  simp only [Bool.not_true, cond_false]
  rw [hiLoop es (by omega) (fun y => !edB n y) ([], false) (fun self i y hy => ?_) (fun self => by simp)]
  · have : es.any (fun y => !edB n y) = false := by
      rw [List.any_eq_false]
      intro y hy
      rw [hE y hy]; simp
    rw [this]
    simp only [Bool.false_eq_true, if_false, Option.bind_some]
    rw [hb, Option.bind_some]
  · have hi := (List.getElem?_eq_some_iff.1 hy).1
    simp only [show ((i : Int) < (es.length : Int)) from by omega, decide_true, cond_true]
    rw [bnd_nat hi, hy, Option.bind_some, h_iEdgeOk, Option.bind_some, wr1 (by omega)]
    cases edB n y <;> rfl
def FT.pr : FT → Int → List (Int × Int)
  | .nil, _ => []
  | .nd w c s, r => (r, w) :: (c.pr w ++ s.pr r)
theorem pr_snd : ∀ (f : FT) (r : Int), (f.pr r).map (·.2) = f.vs
  | .nil, _ => rfl
  | .nd w c s, r => by
    have h1 := pr_snd c w
    have h2 := pr_snd s r
    simp [FT.pr, FT.vs, h1, h2]
theorem pr_len (f : FT) (r : Int) : (f.pr r).length = f.vs.length := by rw [← pr_snd f r, List.length_map]
theorem pr_in {f : FT} {r a b : Int} (h : (a, b) ∈ f.pr r) : b ∈ f.vs := by
  rw [← pr_snd f r]
  exact List.mem_map.2 ⟨_, h, rfl⟩
theorem pr_fst : ∀ (f : FT) {r a b : Int}, (a, b) ∈ f.pr r → a ∈ r :: f.vs
  | .nil, r, a, b, h => by cases h
  | .nd w c s, r, a, b, h => by
    simp only [FT.pr, List.mem_cons, List.mem_append, Prod.mk.injEq] at h
    simp only [FT.vs, List.mem_cons, List.mem_append]
    rcases h with ⟨h, _⟩ | h | h
    · exact .inl h
    · have := pr_fst c h
      rw [List.mem_cons] at this
      rcases this with h | h
      · exact .inr (.inl h)
      · exact .inr (.inr (.inl h))
    · have := pr_fst s h
      rw [List.mem_cons] at this
      rcases this with h | h
      · exact .inl h
      · exact .inr (.inr (.inr h))
theorem pr_bef : ∀ (f : FT) (r : Int) {a b : Int}, (a, b) ∈ f.pr r → ∃ X Y, r :: f.vs = X ++ Y ∧ a ∈ X ∧ b ∈ Y
  | .nil, r, a, b, h => by cases h
  | .nd w c s, r, a, b, h => by
    simp only [FT.pr, List.mem_cons, List.mem_append, Prod.mk.injEq] at h
    rcases h with ⟨rfl, rfl⟩ | h | h
    · exact ⟨[a], b :: (c.vs ++ s.vs), rfl, List.mem_cons_self .., List.mem_cons_self ..⟩
    · obtain ⟨X, Y, e, h1, h2⟩ := pr_bef c w h
      refine ⟨r :: X, Y ++ s.vs, ?_, List.mem_cons_of_mem _ h1, List.mem_append_left _ h2⟩
      have : r :: (FT.nd w c s).vs = r :: ((w :: c.vs) ++ s.vs) := rfl
      rw [this, e]; simp
    · obtain ⟨X, Y, e, h1, h2⟩ := pr_bef s r h
      cases X with
      | nil => cases h1
      | cons x X =>
        simp only [List.cons_append, List.cons.injEq] at e
        obtain ⟨rfl, e⟩ := e
        refine ⟨r :: w :: (c.vs ++ X), Y, ?_, ?_, h2⟩
        · have : r :: (FT.nd w c s).vs = r :: w :: (c.vs ++ s.vs) := rfl
          rw [this, e]; simp
        · rw [List.mem_cons] at h1
          rcases h1 with h1 | h1
          · rw [h1]; exact List.mem_cons_self ..
          · exact List.mem_cons_of_mem _ (List.mem_cons_of_mem _ (List.mem_append_right _ h1))
theorem pr_rk {f : FT} {r : Int} (hn : (r :: f.vs).Nodup) {a b : Int} (h : (a, b) ∈ f.pr r) : (r :: f.vs).idxOf a < (r :: f.vs).idxOf b := by
  obtain ⟨X, Y, e, h1, h2⟩ := pr_bef f r h
  rw [e] at hn ⊢
  rw [List.nodup_append] at hn
  have hb : b ∉ X := fun h => hn.2.2 b h b h2 rfl
  rw [List.idxOf_append, List.idxOf_append, if_pos h1, if_neg hb]
  have := List.idxOf_lt_length_of_mem h1
  omega
theorem snd_un : ∀ {l : List (Int × Int)} {a a' b : Int}, (l.map (·.2)).Nodup → (a, b) ∈ l → (a', b) ∈ l → a = a'
  | [], _, _, _, _, h, _ => by cases h
  | x :: l, a, a', b, hn, h, h' => by
    rw [List.map_cons, List.nodup_cons] at hn
    rw [List.mem_cons] at h h'
    rcases h with rfl | h
    · rcases h' with h' | h'
      · cases h'; rfl
      · exact absurd (List.mem_map.2 ⟨_, h', rfl⟩) hn.1
    · rcases h' with rfl | h'
      · exact absurd (List.mem_map.2 ⟨_, h, rfl⟩) hn.1
      · exact snd_un hn.2 h h'
theorem tr_nd (r w : Int) (c s : FT) : tr r (.nd w c s) = r :: (tr w c ++ tr r s) := by simp [tr, FT.sg]
theorem tr_l (r : Int) (c : FT) : (tr r c)[(tr r c).length - 1]? = some r := by rw [tr_closed]; rfl
theorem split_pr : ∀ (f : FT) (r : Int) (k : Nat), k + 1 < (tr r f).length → ∃ p w, (p, w) ∈ f.pr r ∧ (((tr r f)[k]? = some p ∧ (tr r f)[k + 1]? = some w) ∨ ((tr r f)[k]? = some w ∧ (tr r f)[k + 1]? = some p))
  | .nil, r, k, h => by simp [tr, FT.sg] at h
  | .nd w c s, r, k, h => by
    rw [tr_nd] at h ⊢
    have hw : 1 ≤ (tr w c).length := by simp [tr]
    simp only [List.length_cons, List.length_append] at h
    rw [List.getElem?_cons_succ]
    by_cases h0 : k = 0
    · subst h0
      refine ⟨r, w, List.mem_cons_self .., .inl ⟨rfl, ?_⟩⟩
      rw [List.getElem?_append_left (by omega)]; rfl
    · obtain ⟨k, rfl⟩ : ∃ k', k = k' + 1 := ⟨k - 1, by omega⟩
      rw [List.getElem?_cons_succ]
      by_cases h1 : k + 1 < (tr w c).length
      · obtain ⟨p, x, g1, g2⟩ := split_pr c w k h1
        refine ⟨p, x, List.mem_cons_of_mem _ (List.mem_append_left _ g1), ?_⟩
        rw [List.getElem?_append_left (by omega), List.getElem?_append_left h1]
        exact g2
      · by_cases h2 : k + 1 = (tr w c).length
        · refine ⟨r, w, List.mem_cons_self .., .inr ⟨?_, ?_⟩⟩
          · rw [List.getElem?_append_left (by omega), show k = (tr w c).length - 1 from by omega]
            exact tr_l w c
          · rw [List.getElem?_append_right (by omega), h2, Nat.sub_self]; rfl
        · obtain ⟨p, x, g1, g2⟩ := split_pr s r (k - (tr w c).length) (by omega)
          refine ⟨p, x, List.mem_cons_of_mem _ (List.mem_append_right _ g1), ?_⟩
          rw [List.getElem?_append_right (by omega), List.getElem?_append_right (by omega), show k + 1 - (tr w c).length = k - (tr w c).length + 1 from by omega]
          exact g2
theorem pr_at : ∀ (f : FT) (r p w : Int), (p, w) ∈ f.pr r → (∃ k, (tr r f)[k]? = some p ∧ (tr r f)[k + 1]? = some w) ∧ (∃ k, (tr r f)[k]? = some w ∧ (tr r f)[k + 1]? = some p)
  | .nil, r, p, w, h => by cases h
  | .nd u c s, r, p, w, h => by
    rw [tr_nd]
    have hw : 1 ≤ (tr u c).length := by simp [tr]
    have inA : ∀ {x y : Int}, (∃ k, (tr u c)[k]? = some x ∧ (tr u c)[k + 1]? = some y) → ∃ k, (r :: (tr u c ++ tr r s))[k]? = some x ∧ (r :: (tr u c ++ tr r s))[k + 1]? = some y := by
      rintro x y ⟨k, h1, h2⟩
      have hk := (List.getElem?_eq_some_iff.1 h2).1
      refine ⟨k + 1, ?_, ?_⟩
      · rw [List.getElem?_cons_succ, List.getElem?_append_left (by omega)]; exact h1
      · rw [List.getElem?_cons_succ, List.getElem?_append_left hk]; exact h2
    have inB : ∀ {x y : Int}, (∃ k, (tr r s)[k]? = some x ∧ (tr r s)[k + 1]? = some y) → ∃ k, (r :: (tr u c ++ tr r s))[k]? = some x ∧ (r :: (tr u c ++ tr r s))[k + 1]? = some y := by
      rintro x y ⟨k, h1, h2⟩
      refine ⟨(tr u c).length + k + 1, ?_, ?_⟩
      · rw [List.getElem?_cons_succ, List.getElem?_append_right (by omega), show (tr u c).length + k - (tr u c).length = k from by omega]; exact h1
      · rw [List.getElem?_cons_succ, List.getElem?_append_right (by omega), show (tr u c).length + k + 1 - (tr u c).length = k + 1 from by omega]; exact h2
    simp only [FT.pr, List.mem_cons, List.mem_append, Prod.mk.injEq] at h
    rcases h with ⟨rfl, rfl⟩ | h | h
    · constructor
      · refine ⟨0, rfl, ?_⟩
        rw [List.getElem?_cons_succ, List.getElem?_append_left (by omega)]; rfl
      · refine ⟨(tr w c).length, ?_, ?_⟩
        · rw [show (tr w c).length = ((tr w c).length - 1) + 1 from by omega, List.getElem?_cons_succ, List.getElem?_append_left (by omega)]
          exact tr_l w c
        · rw [List.getElem?_cons_succ, List.getElem?_append_right (Nat.le_refl _), Nat.sub_self]; rfl
    · obtain ⟨h1, h2⟩ := pr_at c u p w h
      exact ⟨inA h1, inA h2⟩
    · obtain ⟨h1, h2⟩ := pr_at s r p w h
      exact ⟨inB h1, inB h2⟩
theorem pr_reach : ∀ (f : FT) (r : Int) (S : Int → Prop), S r → (∀ a b, (a, b) ∈ f.pr r → S a → S b) → ∀ x, x ∈ f.vs → S x
  | .nil, _, _, _, _, x, h => by cases h
  | .nd w c s, r, S, hr, hs, x, h => by
    have hw : S w := hs r w (List.mem_cons_self ..) hr
    simp only [FT.vs, List.mem_cons, List.mem_append] at h
    rcases h with rfl | h | h
    · exact hw
    · exact pr_reach c w S hw (fun a b hab => hs a b (List.mem_cons_of_mem _ (List.mem_append_left _ hab))) x h
    · exact pr_reach s r S hr (fun a b hab => hs a b (List.mem_cons_of_mem _ (List.mem_append_right _ hab))) x h
theorem nodup_sub {α : Type} [DecidableEq α] : ∀ (l1 l2 : List α), l1.Nodup → (∀ x, x ∈ l1 → x ∈ l2) → l1.length ≤ l2.length
  | [], l2, _, _ => by simp
  | x :: l1, l2, hn, h => by
    rw [List.nodup_cons] at hn
    have hx := h x (List.mem_cons_self ..)
    have := nodup_sub l1 (l2.erase x) hn.2 fun y hy => (List.mem_erase_of_ne (by rintro rfl; exact hn.1 hy)).2 (h y (List.mem_cons_of_mem _ hy))
    rw [List.length_erase_of_mem hx] at this
    have := List.length_pos_of_mem hx
    simp only [List.length_cons]; omega
theorem nodup_mp {α β : Type} (f : α → β) : ∀ (l : List α), l.Nodup → (∀ x, x ∈ l → ∀ y, y ∈ l → f x = f y → x = y) → (l.map f).Nodup
  | [], _, _ => by simp
  | x :: l, hn, h => by
    rw [List.nodup_cons] at hn
    rw [List.map_cons, List.nodup_cons]
    refine ⟨fun hm => ?_, nodup_mp f l hn.2 fun a ha b hb => h a (List.mem_cons_of_mem _ ha) b (List.mem_cons_of_mem _ hb)⟩
    obtain ⟨y, hy, e⟩ := List.mem_map.1 hm
    have := h y (List.mem_cons_of_mem _ hy) x (List.mem_cons_self ..) e
    subst this
    exact hn.1 hy
theorem GF_closed {pa : Int → Int → Prop} : ∀ (c : FT) (u : Int), GF pa c u → ∀ y, y ∈ c.vs → ∀ z, (pa z y ∨ pa y z) → z ∈ c.vs ∨ z = u
  | .nil, _, _, y, h, _, _ => by cases h
  | .nd w c s, u, ⟨⟨hR, hG⟩, hS⟩, y, h, z, hz => by
    simp only [FT.vs, List.mem_cons, List.mem_append] at h ⊢
    rcases h with rfl | h | h
    · by_cases hzu : z = u
      · exact .inr hzu
      · exact .inl (.inr (.inl (rts_vs c ((hR.2 z).2 ⟨hzu, hz⟩))))
    · rcases GF_closed c w hG y h z hz with h1 | h1
      · exact .inl (.inr (.inl h1))
      · exact .inl (.inl h1)
    · rcases GF_closed s u hS y h z hz with h1 | h1
      · exact .inl (.inr (.inr h1))
      · exact .inr h1
theorem GF_adj {pa : Int → Int → Prop} : ∀ (s : FT) (v : Int), (∀ w, w ∈ s.rts → pa w v ∨ pa v w) → GF pa s v → ∀ y, y ∈ s.vs → ∃ z, pa z y ∨ pa y z
  | .nil, _, _, _, y, h => by cases h
  | .nd w c s, v, hr, ⟨⟨hR, hG⟩, hS⟩, y, h => by
    simp only [FT.vs, List.mem_cons, List.mem_append] at h
    rcases h with rfl | h | h
    · exact ⟨v, (hr y (List.mem_cons_self ..)).symm⟩
    · exact GF_adj c w (fun x hx => ((hR.2 x).1 hx).2) hG y h
    · exact GF_adj s v (fun x hx => hr x (List.mem_cons_of_mem _ hx)) hS y h
theorem h_lhas (l : List Ed) (e : Ed) (hl : l.length ≤ 1048576) : g_lhas (l, e) = some (decide (e ∈ l), ()) := by
  have hm : maxLen = 9223372036854775807 := by decide
  show f_lhas BIG _ = _
  rw [e_lhas, hiLoop l (by omega) (fun y => decide (y.1 = e.1) && (decide (y.2 = e.2) && true)) true (fun self i y hy => ?_) (fun self => by simp)]
  · rw [Option.bind_some]
    have : l.any (fun y => decide (y.1 = e.1) && (decide (y.2 = e.2) && true)) = true ↔ e ∈ l := by
      rw [List.any_eq_true]
      constructor
      · rintro ⟨y, hy, h⟩
        simp only [Bool.and_eq_true, decide_eq_true_eq, and_true] at h
        have : y = e := Prod.ext h.1 h.2
        rw [← this]; exact hy
      · exact fun h => ⟨e, h, by simp⟩
    by_cases h : e ∈ l
    · rw [if_pos (this.2 h), decide_eq_true h]
    · rw [if_neg (fun h' => h (this.1 h')), decide_eq_false h]
  · have hi := (List.getElem?_eq_some_iff.1 hy).1
    simp only [show ((i : Int) < (l.length : Int)) from by omega, decide_true, cond_true]
    rw [bnd_nat hi, hy, Option.bind_some, wr1 (by omega)]
    cases (decide (y.1 = e.1) && (decide (y.2 = e.2) && true)) <;> rfl
/-- The edges of a tour. -/
structure TrE (v : Int) (f : FT) (E : List Ed) : Prop where
  nd : E.Nodup
  mem : ∀ a b, (a, b) ∈ E ↔ a < b ∧ ((a, b) ∈ f.pr v ∨ (b, a) ∈ f.pr v)
section
variable {v : Int} {f : FT} {E : List Ed} (ht : TrOk v f) (hE : TrE v f E)
include ht
theorem pr_root {a : Int} : (a, v) ∉ f.pr v := fun h => (List.nodup_cons.1 ht.nd).1 (pr_in h)
theorem pr_uni {a a' b : Int} (h : (a, b) ∈ f.pr v) (h' : (a', b) ∈ f.pr v) : a = a' := snd_un (by rw [pr_snd]; exact (List.nodup_cons.1 ht.nd).2) h h'
include hE
theorem TrE.fo : Fo 12 E (fun a b => (a, b) ∈ f.pr v) (fun x => (v :: f.vs).idxOf x) where
  rg := fun {a b} h => by
    have h1 := ht.rg a (pr_fst f h)
    have h2 := ht.rg b (List.mem_cons_of_mem _ (pr_in h))
    omega
  ad := fun u x => by
    by_cases hxu : x < u
    · rw [if_pos hxu, hE.mem]
      exact ⟨fun h => h.2.symm, fun h => ⟨hxu, h.symm⟩⟩
    · rw [if_neg hxu, hE.mem]
      refine ⟨fun h => h.2, fun h => ⟨?_, h⟩⟩
      by_cases he : u = x
      · subst he
        have : (u, u) ∈ f.pr v := by rcases h with h | h <;> exact h
        have := pr_rk ht.nd this
        omega
      · omega
  un := fun {a a' b} h h' => pr_uni ht h h'
  up := fun {a b} h => pr_rk ht.nd h
theorem TrE.edB : ∀ e, e ∈ E → edB (12 : Nat) e = true := by
  rintro ⟨a, b⟩ he
  have h := (hE.mem a b).1 he
  have ha : a ∈ v :: f.vs := by
    rcases h.2 with h | h
    · exact pr_fst f h
    · exact List.mem_cons_of_mem _ (pr_in h)
  have hb : b ∈ v :: f.vs := by
    rcases h.2 with h | h
    · exact List.mem_cons_of_mem _ (pr_in h)
    · exact pr_fst f h
  have h1 := ht.rg a ha
  have h2 := ht.rg b hb
  unfold Go.Fw.edB
  simp only [Bool.and_eq_true, inB_t, decide_eq_true_eq]
  omega
theorem TrE.len : E.length = f.vs.length := by
  rw [← pr_len f v]
  have hprn : (f.pr v).Nodup := by
    have : ((f.pr v).map (·.2)).Nodup := by rw [pr_snd]; exact (List.nodup_cons.1 ht.nd).2
    exact List.Pairwise.of_map (·.2) (fun a b h he => h (by rw [he])) this
  have hN : ((f.pr v).map fun e => if e.1 < e.2 then e else (e.2, e.1)).Nodup := by
    refine nodup_mp _ _ hprn ?_
    rintro ⟨a, b⟩ hx ⟨c, d⟩ hy h
    have r1 := pr_rk ht.nd hx
    have r2 := pr_rk ht.nd hy
    simp only at h
    split at h <;> split at h
    · exact h
    · cases h; omega
    · simp only [Prod.mk.injEq] at h
      obtain ⟨rfl, rfl⟩ := h
      omega
    · simp only [Prod.mk.injEq] at h
      rw [h.1, h.2]
  have l1 := nodup_sub E ((f.pr v).map fun e => if e.1 < e.2 then e else (e.2, e.1)) hE.nd (by
    rintro ⟨a, b⟩ he
    have h := (hE.mem a b).1 he
    rw [List.mem_map]
    rcases h.2 with h2 | h2
    · exact ⟨(a, b), h2, by simp [h.1]⟩
    · exact ⟨(b, a), h2, by simp only; rw [if_neg (by omega)]⟩)
  have l2 := nodup_sub _ E hN (by
    rintro ⟨a, b⟩ he
    rw [List.mem_map] at he
    obtain ⟨⟨c, d⟩, h1, h2⟩ := he
    have r1 := pr_rk ht.nd h1
    have hcd : c ≠ d := by rintro rfl; omega
    simp only at h2
    split at h2
    · rename_i hlt
      cases h2
      exact (hE.mem _ _).2 ⟨hlt, .inl h1⟩
    · cases h2
      exact (hE.mem _ _).2 ⟨by omega, .inr h1⟩)
  rw [List.length_map] at l1 l2
  omega
theorem TrE.con : ∀ x, x ∈ v :: f.vs → Con E v x := by
  intro x hx
  rw [List.mem_cons] at hx
  rcases hx with rfl | hx
  · exact .refl _
  · refine pr_reach f v (Con E v) (.refl _) (fun a b hab ha => ?_) x hx
    have hne : a ≠ b := by
      rintro rfl
      have := pr_rk ht.nd hab
      omega
    by_cases hlt : a < b
    · exact .fwd ha ((hE.mem a b).2 ⟨hlt, .inl hab⟩)
    · exact .bwd ha ((hE.mem b a).2 ⟨by omega, .inr hab⟩)
omit hE in
/-- Two that are not next to one another. -/
theorem far (h2 : 2 ≤ f.vs.length) : ∃ a b, a ∈ v :: f.vs ∧ b ∈ v :: f.vs ∧ a ≠ b ∧ (a, b) ∉ f.pr v ∧ (b, a) ∉ f.pr v := by
  cases f with
  | nil => simp [FT.vs] at h2
  | nd u c s =>
    have hnd := ht.nd
    have hvu : (v, u) ∈ (FT.nd u c s).pr v := List.mem_cons_self ..
    cases c with
    | nd x c' s' =>
      have hux : (u, x) ∈ (FT.nd u (.nd x c' s') s).pr v := List.mem_cons_of_mem _ (List.mem_append_left _ (List.mem_cons_self ..))
      refine ⟨v, x, List.mem_cons_self .., List.mem_cons_of_mem _ (pr_in hux), ?_, fun h => ?_, fun h => pr_root ht h⟩
      · rintro rfl; exact pr_root ht hux
      · have := pr_uni ht h hux
        subst this
        exact pr_root ht hvu
    | nil =>
      cases s with
      | nil => simp [FT.vs] at h2
      | nd u' c' s' =>
        have hvu' : (v, u') ∈ (FT.nd u .nil (.nd u' c' s')).pr v := List.mem_cons_of_mem _ (List.mem_append_right _ (List.mem_cons_self ..))
        refine ⟨u, u', List.mem_cons_of_mem _ (pr_in hvu), List.mem_cons_of_mem _ (pr_in hvu'), ?_, fun h => ?_, fun h => ?_⟩
        · rintro rfl
          simp [FT.vs] at hnd
        · have := pr_uni ht h hvu'
          subst this
          exact pr_root ht hvu
        · have := pr_uni ht h hvu
          subst this
          exact pr_root ht hvu'
end
theorem TrE.of {v : Int} {f : FT} {E : List Ed} (hnd : E.Nodup)
    (hm : ∀ a b : Int, (a, b) ∈ E ↔ ∃ k : Nat, k + 1 < (tr v f).length ∧ (tr v f)[k]? = some a ∧ (tr v f)[k + 1]? = some b ∧ a < b) : TrE v f E where
  nd := hnd
  mem := fun a b => by
    rw [hm]
    constructor
    · rintro ⟨k, h1, h2, h3, h4⟩
      refine ⟨h4, ?_⟩
      obtain ⟨p, w, g1, g2⟩ := split_pr f v k h1
      rcases g2 with ⟨g2, g3⟩ | ⟨g2, g3⟩
      · rw [h2] at g2
        rw [h3] at g3
        cases g2; cases g3
        exact .inl g1
      · rw [h2] at g2
        rw [h3] at g3
        cases g2; cases g3
        exact .inr g1
    · rintro ⟨h1, h2⟩
      have : ∃ k, (tr v f)[k]? = some a ∧ (tr v f)[k + 1]? = some b := by
        rcases h2 with h2 | h2
        · exact (pr_at f v a b h2).1
        · exact (pr_at f v b a h2).2
      obtain ⟨k, k1, k2⟩ := this
      exact ⟨k, (List.getElem?_eq_some_iff.1 k2).1, k1, k2, h1⟩
section
variable {v : Int} {f : FT} {E : List Ed} (ht : TrOk v f) (hE : TrE v f E)
include ht hE
/-- The tour by these edges. -/
theorem TrE.tour : ∃ g, g_sTourOf ((12 : Int), E, v) = some ((tr v g, true), ()) ∧ g_iTourOf ((12 : Int), E, v) = some ((tr v g, true), ()) ∧ (∀ x, x ∈ tr v g ↔ x ∈ tr v f) ∧ (tr v g).length = 2 * E.length + 1 := by
  have F := TrE.fo ht hE
  have hed := TrE.edB ht hE
  have hel := TrE.len ht hE
  have hfl := ht.len
  have hv := ht.rg v (List.mem_cons_self ..)
  obtain ⟨g, e1, g2, g3, g4, g5⟩ := h_sTourOfS F (by omega) (by omega) (by omega) hed v (by omega)
  have h12 : ((12 : Nat) : Int) = 12 := rfl
  rw [h12] at e1
  have hgl : g.vs.length ≤ 12 := by
    have := nodup_le 12 (v :: g.vs) g2 g3
    simp only [List.length_cons] at this; omega
  obtain ⟨b, b1, b2⟩ := w_irings 12 E (by omega) (by omega) (by omega) hed
  have hb : b = false := by
    cases b with
    | false => rfl
    | true =>
      obtain ⟨i, hi, hc⟩ := b2.1 rfl
      exact absurd hc (Fo.noring F hed hE.nd i hi)
  subst hb
  have e2 := iTourOf_pre (n := 12) (by omega) (by omega) (by omega) hed v (by omega) b1
  rw [cond_false, w_iwalk F hed (by omega) 64 v (-1) g g4 g5 (by omega) (by omega), Option.bind_some, h12] at e2
  have hms : ∀ x, x ∈ v :: g.vs ↔ x ∈ v :: f.vs := by
    intro x
    constructor
    · intro hx
      rw [List.mem_cons] at hx
      rcases hx with rfl | hx
      · exact List.mem_cons_self ..
      · obtain ⟨z, hz⟩ := GF_adj g v (fun w hw => ((g4.2 w).1 hw).2) g5 x hx
        rcases hz with hz | hz
        · exact List.mem_cons_of_mem _ (pr_in hz)
        · exact pr_fst f hz
    · intro hx
      rw [List.mem_cons] at hx
      rcases hx with rfl | hx
      · exact List.mem_cons_self ..
      · refine pr_reach f v (fun x => x ∈ v :: g.vs) (List.mem_cons_self ..) (fun a b hab ha => ?_) x hx
        rw [List.mem_cons] at ha
        rcases ha with rfl | ha
        · have hb := ht.rg b (List.mem_cons_of_mem _ (pr_in hab))
          exact List.mem_cons_of_mem _ (rts_vs g ((g4.2 b).2 ⟨by omega, .inr hab⟩))
        · rcases GF_closed g v g5 a ha b (.inr hab) with h | h
          · exact List.mem_cons_of_mem _ h
          · rw [h]; exact List.mem_cons_self ..
  have l1 := nodup_sub _ _ g2 (fun x hx => (hms x).1 hx)
  have l2 := nodup_sub _ _ ht.nd (fun x hx => (hms x).2 hx)
  simp only [List.length_cons] at l1 l2
  refine ⟨g, e1, e2, fun x => ?_, ?_⟩
  · rw [tr_mem, tr_mem, hms]
  · rw [tr_len, hel]; omega
/-- One edge more makes a ring. -/
theorem TrE.more {a b : Int} (hab : a < b) (ha : a ∈ v :: f.vs) (hb : b ∈ v :: f.vs) : g_iTourOf ((12 : Int), E ++ [(a, b)], v) = some (([], false), ()) := by
  have hel := TrE.len ht hE
  have hfl := ht.len
  have hv := ht.rg v (List.mem_cons_self ..)
  have h1 := ht.rg a ha
  have h2 := ht.rg b hb
  have hed : ∀ e, e ∈ E ++ [(a, b)] → Go.Fw.edB (12 : Nat) e = true := by
    intro e he
    rw [List.mem_append, List.mem_singleton] at he
    rcases he with he | rfl
    · exact TrE.edB ht hE e he
    · unfold Go.Fw.edB
      simp only [Bool.and_eq_true, inB_t, decide_eq_true_eq]
      omega
  have hl : (E ++ [(a, b)]).length = E.length + 1 := by simp
  obtain ⟨r, b1, b2⟩ := w_irings 12 (E ++ [(a, b)]) (by omega) (by omega) (by omega) hed
  have hr : r = true := b2.2 ⟨E.length, by omega, by
    have hg : (E ++ [(a, b)])[E.length]'(by omega) = (a, b) := by simp
    rw [hg, List.take_left]
    exact (TrE.con ht hE a ha).symm.trans (TrE.con ht hE b hb)⟩
  subst hr
  exact iTourOf_pre (n := 12) (by omega) (by omega) (by omega) hed v (by omega) b1
end
def RgI (E : List Ed) (L : List Int) (P : Prop) (ring : List Ed) : Prop := (ring = E ∧ P) ∨ ∃ a b, a ∈ L ∧ b ∈ L ∧ a < b ∧ ring = E ++ [(a, b)]
def RgA (E : List Ed) (L : List Int) (i : Nat) : Prop := ∀ i' k' : Nat, i' < k' → i' < i → ∀ a b, L[i']? = some a → L[k']? = some b → (a, b) ∈ E
def RgB (E : List Ed) (L : List Int) (i k : Nat) : Prop := RgA E L i ∧ ∀ k' : Nat, i < k' → k' < k → ∀ a b, L[i]? = some a → L[k']? = some b → (a, b) ∈ E
theorem law_lFnTourOf (a : List Int) (h : a.length ≤ maxLen) : g_lFnTourOf a = some (true, ()) := by
  have hm : maxLen = 9223372036854775807 := by decide
  show f_lFnTourOf BIG _ = _
  rw [e_lFnTourOf, h_lbig, Option.bind_some]
  by_cases ha : a.length ≤ 1048576
  case neg => rw [decide_eq_true (by omega)]; rfl
  rw [decide_eq_false (by omega), cond_false]
  obtain ⟨v, f, x, k1, ht, hx⟩ := h_sDrawRightTour a ha
  have hlen := tr_len v f
  have hl := ht.len
  have hv := ht.rg v (List.mem_cons_self ..)
  have t0 : (tr v f)[Int.toNat 0]? = some v := rfl
  have bt : ∀ {B : Type} {k : Nat → Option B}, bnd (tr v f).length 0 k = k (Int.toNat 0) := fun {B k} => bnd0 (by omega)
  rw [k1, Option.bind_some]
  simp only [bt, t0, Option.bind_some]
  refine loop_bind (P := fun o => o = some (true, ())) (fun (s : List Ed × Int) => ∃ i : Nat, s.2 = (i : Int) ∧ i + 1 ≤ (tr v f).length ∧ s.1.length ≤ i ∧ s.1.Nodup ∧ ∀ a b : Int, (a, b) ∈ s.1 ↔ ∃ k : Nat, k < i ∧ (tr v f)[k]? = some a ∧ (tr v f)[k + 1]? = some b ∧ a < b) (fun s => (tr v f).length - s.2.toNat)
    (fun _ (E : List Ed) => TrE v f E) (by simp [BIG]; omega) ⟨0, rfl, by omega, by simp, by simp, by simp⟩ (fun self s hs0 hs => ?_) (fun E hE => ?_)
  · obtain ⟨E, j⟩ := s
    obtain ⟨i, h1, h2, h3, h4, h5⟩ := hs0
    simp only at h1 h2 h3 h4 h5 hs ⊢
    subst h1
    rw [wr1 (by omega)]
    by_cases hi : i + 1 < (tr v f).length
    · have hi' : i < (tr v f).length := by omega
      have bi : ∀ {B : Type} {k : Nat → Option B}, bnd (tr v f).length (i : Int) k = k i := fun {B k} => bnd_nat hi'
      have bi1 : ∀ {B : Type} {k : Nat → Option B}, bnd (tr v f).length ((i + 1 : Nat) : Int) k = k (i + 1) := fun {B k} => bnd_nat hi
      simp only [show (((i + 1 : Nat) : Int) < ((tr v f).length : Int)) from by omega, decide_true, cond_true, bi, bi1, List.getElem?_eq_getElem hi', List.getElem?_eq_getElem hi, Option.bind_some]
      have next : ∀ E' : List Ed, E'.length ≤ i + 1 → E'.Nodup → (∀ a b : Int, (a, b) ∈ E' ↔ (a, b) ∈ E ∨ ((tr v f)[i] = a ∧ (tr v f)[i + 1] = b ∧ a < b)) → ∃ b, self (E', ((i + 1 : Nat) : Int)) = some b ∧ TrE v f b := by
        intro E' g1 g2 g3
        refine hs _ ⟨i + 1, rfl, by omega, g1, g2, fun a b => ?_⟩ (by simp; omega)
        simp only
        rw [g3, h5]
        constructor
        · rintro (⟨k, k1, k2⟩ | ⟨k1, k2, k3⟩)
          · exact ⟨k, by omega, k2⟩
          · exact ⟨i, by omega, by rw [List.getElem?_eq_getElem hi', k1], by rw [List.getElem?_eq_getElem hi, k2], k3⟩
        · rintro ⟨k, k1, k2, k3, k4⟩
          by_cases hk : k = i
          · subst hk
            rw [List.getElem?_eq_getElem hi'] at k2
            rw [List.getElem?_eq_getElem hi] at k3
            cases k2; cases k3
            exact .inr ⟨rfl, rfl, k4⟩
          · exact .inl ⟨k, by omega, k2, k3, k4⟩
      by_cases hlt : (tr v f)[i] < (tr v f)[i + 1]
      · rw [decide_eq_true hlt, cond_true, h_lhas E _ (by omega)]
        simp only [Option.bind_some]
        by_cases hin : ((tr v f)[i], (tr v f)[i + 1]) ∈ E
        · rw [decide_eq_true hin]
          simp only [Bool.not_true, cond_false, Option.bind_some]
          refine next E (by omega) h4 fun a b => ⟨.inl, ?_⟩
          rintro (g | ⟨rfl, rfl, _⟩)
          · exact g
          · exact hin
        · rw [decide_eq_false hin]
          simp only [Bool.not_false, cond_true]
          rw [decide_eq_true (by simp only [List.length_cons, List.length_nil]; omega), cond_true, Option.bind_some]
          refine next _ (by simp only [List.length_append, List.length_cons, List.length_nil]; omega) ?_ fun a b => ?_
          · rw [List.nodup_append]
            refine ⟨h4, by simp, fun p hp q hq => ?_⟩
            rw [List.mem_singleton] at hq
            subst hq
            rintro rfl
            exact hin hp
          · rw [List.mem_append, List.mem_singleton, Prod.mk.injEq]
            constructor
            · rintro (g | ⟨g1, g2⟩)
              · exact .inl g
              · exact .inr ⟨g1.symm, g2.symm, by rw [g1, g2]; exact hlt⟩
            · rintro (g | ⟨g1, g2, _⟩)
              · exact .inl g
              · exact .inr ⟨g1.symm, g2.symm⟩
      · rw [decide_eq_false hlt]
        simp only [cond_false, Option.bind_some]
        refine next E (by omega) h4 fun a b => ⟨.inl, ?_⟩
        rintro (g | ⟨g1, g2, g3⟩)
        · exact g
        · rw [← g1, ← g2] at g3
          exact absurd g3 hlt
    · simp only [show ¬ (((i + 1 : Nat) : Int) < ((tr v f).length : Int)) from by omega, decide_false, cond_false]
      refine ⟨_, rfl, TrE.of h4 fun a b => ?_⟩
      rw [h5]
      constructor
      · rintro ⟨k, k1, k2, k3, k4⟩
        exact ⟨k, (List.getElem?_eq_some_iff.1 k3).1, k2, k3, k4⟩
      · rintro ⟨k, k1, k2, k3, k4⟩
        exact ⟨k, by omega, k2, k3, k4⟩
  · have hel := TrE.len ht hE
    obtain ⟨g, e1, e2, hms, hgl⟩ := TrE.tour ht hE
    obtain ⟨L, m1, m2, hL⟩ := h_verts_same (a := tr v g) (b := tr v f) (by omega) (by omega) hms
    obtain ⟨L', m3, s1, s2, s3⟩ := w_iVertsOf (tr v f) (by omega)
    rw [m2, Option.some.injEq, Prod.mk.injEq] at m3
    obtain ⟨rfl, _⟩ := m3
    simp only [e2, e1, Option.bind_some, Bool.not_true, cond_false, h_lsameInts (tr v g) (tr v g) (by omega), decide_true, m1, m2, h_lsameInts L L (by omega)]
    rw [wr (n := 2 * (E.length : Int)) (by omega) (by omega), wr (n := 2 * (E.length : Int) + 1) (by omega) (by omega), decide_eq_true (by omega)]
    simp only [Bool.not_true, cond_false]
    by_cases h2 : E.length < 2
    · rw [decide_eq_true (by omega), cond_true]
    rw [decide_eq_false (by omega), cond_false, decide_eq_true (by omega), cond_true, List.nil_append]
    refine loop_bind (P := fun o => o = some (true, ())) (fun (s : List Ed × Int) => ∃ i : Nat, s.2 = (i : Int) ∧ i ≤ L.length ∧ RgI E L (RgA E L i) s.1) (fun s => L.length - s.2.toNat)
      (fun _ (R : List Ed) => RgI E L (RgA E L L.length) R) (by simp [BIG]; omega) ⟨0, rfl, by omega, .inl ⟨rfl, fun i' k' _ h => by omega⟩⟩ (fun self s hs0 hs => ?_) (fun R hR => ?_)
    · obtain ⟨R, j⟩ := s
      obtain ⟨i, h1, h3, h4⟩ := hs0
      simp only at h1 h3 h4 hs ⊢
      subst h1
      by_cases hi : i < L.length
      · simp only [show ((i : Int) < (L.length : Int)) from by omega, decide_true, cond_true]
        rw [wr1 (by omega)]
        refine loop_bind (P := fun o => ∃ b : List Ed, o = some b ∧ RgI E L (RgA E L L.length) b) (fun (s : List Ed × Int) => ∃ k : Nat, s.2 = (k : Int) ∧ i < k ∧ k ≤ L.length ∧ RgI E L (RgB E L i k) s.1) (fun s => L.length - s.2.toNat)
          (fun _ (R : List Ed) => RgI E L (RgA E L (i + 1)) R) (by simp [BIG]; omega) ⟨i + 1, rfl, by omega, by omega, ?_⟩ (fun self2 s hs0' hs2 => ?_) (fun R hR => ?_)
        · rcases h4 with ⟨h4, h5⟩ | h4
          · exact .inl ⟨h4, h5, fun k' k1 k2 => by omega⟩
          · exact .inr h4
        · obtain ⟨R, jj⟩ := s
          obtain ⟨k, g1, g2, g3, g4⟩ := hs0'
          simp only at g1 g2 g3 g4 hs2 ⊢
          subst g1
          by_cases hk : k < L.length
          · have bi : ∀ {B : Type} {k : Nat → Option B}, bnd L.length (i : Int) k = k i := fun {B k} => bnd_nat hi
            have bk : ∀ {B : Type} {q : Nat → Option B}, bnd L.length (k : Int) q = q k := fun {B q} => bnd_nat hk
            have hlt : L[i] < L[k] := List.pairwise_iff_getElem.1 s1 i k hi hk g2
            have hRl : R.length ≤ E.length + 1 := by
              rcases g4 with ⟨g4, _⟩ | ⟨_, _, _, _, _, g4⟩
              · rw [g4]; omega
              · rw [g4]; simp
            simp only [show ((k : Int) < (L.length : Int)) from by omega, decide_true, cond_true, bi, bk, List.getElem?_eq_getElem hi, List.getElem?_eq_getElem hk, Option.bind_some]
            rw [wr1 (by omega), h_lhas R _ (by omega)]
            simp only [Option.bind_some]
            have next : ∀ R' : List Ed, RgI E L (RgB E L i (k + 1)) R' → ∃ b, self2 (R', ((k + 1 : Nat) : Int)) = some b ∧ RgI E L (RgA E L (i + 1)) b := fun R' hR' =>
              hs2 _ ⟨k + 1, rfl, by omega, by omega, hR'⟩ (by simp; omega)
            by_cases hin : (L[i], L[k]) ∈ R
            · rw [decide_eq_true hin]
              simp only [Bool.not_true, cond_false, Option.bind_some]
              refine next R ?_
              rcases g4 with ⟨g4, g5, g6⟩ | g4
              · refine .inl ⟨g4, g5, fun k' k1 k2 a b ha hb => ?_⟩
                by_cases hkk : k' = k
                · subst hkk
                  rw [List.getElem?_eq_getElem hi] at ha
                  rw [List.getElem?_eq_getElem hk] at hb
                  cases ha; cases hb
                  rw [← g4]; exact hin
                · exact g6 k' k1 (by omega) a b ha hb
              · exact .inr g4
            · rw [decide_eq_false hin]
              simp only [Bool.not_false, cond_true, Option.bind_some]
              rcases g4 with ⟨g4, g5, g6⟩ | g4
              · rw [decide_eq_true (by rw [g4]), cond_true, decide_eq_true (by simp only [List.length_cons, List.length_nil]; omega), cond_true, Option.bind_some]
                exact next _ (.inr ⟨_, _, List.getElem_mem hi, List.getElem_mem hk, hlt, by rw [g4]⟩)
              · have hne : ¬ ((R.length : Int) = (E.length : Int)) := by
                  obtain ⟨_, _, _, _, _, g4⟩ := g4
                  rw [g4]; simp only [List.length_append, List.length_cons, List.length_nil]; omega
                rw [decide_eq_false hne, cond_false, Option.bind_some]
                exact next R (.inr g4)
          · simp only [show ¬ ((k : Int) < (L.length : Int)) from by omega, decide_false, cond_false]
            refine ⟨_, rfl, ?_⟩
            rcases g4 with ⟨g4, g5, g6⟩ | g4
            · refine .inl ⟨g4, fun i' k' k1 k2 a b ha hb => ?_⟩
              by_cases hii : i' = i
              · subst hii
                have := (List.getElem?_eq_some_iff.1 hb).1
                exact g6 k' k1 (by omega) a b ha hb
              · exact g5 i' k' k1 (by omega) a b ha hb
            · exact .inr g4
        · exact hs _ ⟨i + 1, rfl, hi, hR⟩ (by simp; omega)
      · simp only [show ¬ ((i : Int) < (L.length : Int)) from by omega, decide_false, cond_false]
        have : i = L.length := by omega
        subst this
        exact ⟨_, rfl, h4⟩
    · have hmL : ∀ x, x ∈ L ↔ x ∈ v :: f.vs := fun x => by rw [s2, tr_mem]
      rcases hR with ⟨hR, hA⟩ | ⟨p, q, hp, hq, hpq, hR⟩
      · exfalso
        obtain ⟨p, q, hp, hq, hne, n1, n2⟩ := far ht (by omega)
        have all : ∀ p q, p ∈ L → q ∈ L → p < q → (p, q) ∈ E := by
          intro p q hp hq hlt
          obtain ⟨i, hi, hpi⟩ := List.mem_iff_getElem.1 hp
          obtain ⟨k, hk, hqk⟩ := List.mem_iff_getElem.1 hq
          refine hA i k ?_ hi p q (by rw [List.getElem?_eq_getElem hi, hpi]) (by rw [List.getElem?_eq_getElem hk, hqk])
          by_cases hik : i < k
          · exact hik
          · exfalso
            by_cases he : i = k
            · subst he
              omega
            · have := List.pairwise_iff_getElem.1 s1 k i hk hi (by omega)
              omega
        by_cases hlt : p < q
        · rcases ((hE.mem p q).1 (all p q ((hmL p).2 hp) ((hmL q).2 hq) hlt)).2 with g | g
          · exact n1 g
          · exact n2 g
        · rcases ((hE.mem q p).1 (all q p ((hmL q).2 hq) ((hmL p).2 hp) (by omega))).2 with g | g
          · exact n2 g
          · exact n1 g
      · subst hR
        rw [TrE.more ht hE hpq ((hmL p).1 hp) ((hmL q).1 hq)]
        rfl
end Go.Fw
