/- What the given functions come to. No conditions. -/
import Derived.Test.YtjjfihpihnifcaaX1
import Derived.IntWalk
set_option linter.unusedVariables false
set_option linter.unusedSimpArgs false
namespace Go.Fw

theorem loop_rel {X B : Type} {F : (X → Option B) → X → Option B} (I : X → Prop) (μ : X → Nat) (Q : X → B → Prop)
    (h : ∀ self x, I x → (∀ y, I y → μ y < μ x → ∃ b, self y = some b ∧ Q y b) → ∃ b, F self x = some b ∧ Q x b) : ∀ {n : Nat} {x : X}, μ x < n → I x → ∃ b, loopT n F x = some b ∧ Q x b
  | 0, _, hn, _ => absurd hn (Nat.not_lt_zero _)
  | n + 1, x, hn, hi => h (it F n) x hi fun _ hy hm => loop_rel I μ Q h (n := n) (by omega) hy
theorem loop_eq {X B : Type} {F : (X → Option B) → X → Option B} (I : X → Prop) (μ : X → Nat) (R : X → B)
    (h : ∀ self x, I x → (∀ y, I y → μ y < μ x → self y = some (R y)) → F self x = some (R x)) {n : Nat} {x : X} (hn : μ x < n) (hi : I x) : loopT n F x = some (R x) := by
  obtain ⟨b, h1, h2⟩ := loop_rel (F := F) I μ (fun x b => b = R x) (fun self x hx hs => ⟨_, h self x hx fun y hy hm => by obtain ⟨b, h1, h2⟩ := hs y hy hm; rw [h1, h2], rfl⟩) hn hi
  rw [h1, h2]
theorem wr {n : Int} (h : -9223372036854775808 ≤ n) (h' : n ≤ 9223372036854775807) : IntKind.wrap .i64 n = n := by
  rw [IntKind.wrap_i64]; omega
theorem wr1 {i : Nat} (h : i < maxLen) : IntKind.wrap .i64 ((i : Int) + 1) = ((i + 1 : Nat) : Int) := by
  have : maxLen = 9223372036854775807 := by decide
  rw [wr (by omega) (by omega)]; rfl
theorem bnd_ok {B : Type} {len : Nat} {i : Int} {k : Nat → Option B} (h : 0 ≤ i) (h' : i < len) : bnd len i k = k i.toNat := by
  unfold bnd
  rw [if_pos ⟨h, by omega⟩]
theorem bnd_nat {B : Type} {len : Nat} {i : Nat} {k : Nat → Option B} (h' : i < len) : bnd len (i : Int) k = k i := by
  rw [bnd_ok (Int.natCast_nonneg i) (by omega)]
  simp
/-- A loop that goes through a row, and is left at the first place where it is told so. -/
theorem allLoop {α B : Type} (a : List α) (hl : a.length < 18446744073709551616) {F : (Int → Option (Unit ⊕ B)) → Int → Option (Unit ⊕ B)} (p : Nat → Bool) (b : B)
    (hF : ∀ self (i : Nat) y, a[i]? = some y → F self (i : Int) = if p i then self ((i + 1 : Nat) : Int) else some (.inr b))
    (hE : ∀ self, F self (a.length : Int) = some (.inl ())) : loopT BIG F 0 = some (if ∀ i, i < a.length → p i = true then .inl () else .inr b) := by
  have hh := loop_rel (F := F) (fun x => ∃ i : Nat, x = i ∧ i ≤ a.length) (fun x => a.length - x.toNat) (fun x r => ((∀ i : Nat, x ≤ (i : Int) → i < a.length → p i = true) ∧ r = .inl ()) ∨ ((∃ i : Nat, i < a.length ∧ p i = false) ∧ r = .inr b)) (fun self x ⟨i, h1, h2⟩ hs => ?_) (n := BIG) (x := 0) (by simp; exact hl) ⟨0, rfl, by simp⟩
  · obtain ⟨r, hr, hq⟩ := hh
    rw [hr]
    congr 1
    rcases hq with ⟨h1, rfl⟩ | ⟨⟨i, h1, h2⟩, rfl⟩
    · rw [if_pos fun i hi => h1 i (by omega) hi]
    · rw [if_neg]
      intro h
      rw [h i h1] at h2; cases h2
  · subst h1
    by_cases hi : i < a.length
    · rw [hF self i a[i] (List.getElem?_eq_getElem hi)]
      cases hp : p i with
      | true =>
        rw [if_pos rfl]
        obtain ⟨r, hr, hq⟩ := hs _ ⟨i + 1, rfl, hi⟩ (by simp; omega)
        refine ⟨r, hr, ?_⟩
        rcases hq with ⟨h1, rfl⟩ | h1
        · refine .inl ⟨fun k hk hk' => ?_, rfl⟩
          by_cases h : k = i
          · subst h; exact hp
          · exact h1 k (by omega) hk'
        · exact .inr h1
      | false => exact ⟨_, rfl, .inr ⟨⟨i, hi, hp⟩, rfl⟩⟩
    · have : i = a.length := by omega
      subst this
      exact ⟨_, hE self, .inl ⟨fun k hk hk' => by omega, rfl⟩⟩
theorem maxLen_lt : maxLen < 18446744073709551616 := by decide
/-- Two rows that are looked at side by side. -/
theorem eqLoop {α B : Type} [DecidableEq α] (a b : List α) (hl : a.length ≤ maxLen) (hab : a.length = b.length) {F : (Int → Option (Unit ⊕ B)) → Int → Option (Unit ⊕ B)} (r : B)
    (hF : ∀ self (i : Nat) x y, a[i]? = some x → b[i]? = some y → F self (i : Int) = if x = y then self ((i + 1 : Nat) : Int) else some (.inr r))
    (hE : ∀ self, F self (a.length : Int) = some (.inl ())) : loopT BIG F 0 = some (if a = b then .inl () else .inr r) := by
  rw [allLoop a (Nat.lt_of_le_of_lt hl maxLen_lt) (fun i => decide (a[i]? = b[i]?)) r (fun self i y hy => ?_) hE]
  · congr 1
    by_cases h : a = b
    · subst h; simp
    · rw [if_neg h, if_neg]
      intro h'
      apply h
      apply List.ext_getElem? fun i => ?_
      by_cases hi : i < a.length
      · simpa using h' i hi
      · rw [List.getElem?_eq_none (by omega), List.getElem?_eq_none (by omega)]
  · have hi := (List.getElem?_eq_some_iff.1 hy).1
    have hb : b[i]? = some (b[i]'(by omega)) := List.getElem?_eq_getElem (by omega)
    rw [hF self i y _ hy hb, hy, hb]
    simp
/-- A loop that goes through a row and keeps an account. -/
theorem foldLoop {α S B : Type} (a : List α) (hl : a.length < 18446744073709551616) {F : (S × Int → Option B) → S × Int → Option B} (I : Nat → S → Prop) (st : S → α → S) (R : S → B) {s0 : S} (h0 : I 0 s0)
    (hI : ∀ i s y, a[i]? = some y → I i s → I (i + 1) (st s y)) (hF : ∀ self s (i : Nat) y, a[i]? = some y → I i s → F self (s, (i : Int)) = self (st s y, ((i + 1 : Nat) : Int)))
    (hE : ∀ self s, I a.length s → F self (s, (a.length : Int)) = some (R s)) : loopT BIG F (s0, 0) = some (R (a.foldl st s0)) := by
  have := loop_eq (F := F) (fun x => ∃ i : Nat, x.2 = i ∧ i ≤ a.length ∧ I i x.1) (fun x => a.length - x.2.toNat) (fun x => R ((a.drop x.2.toNat).foldl st x.1)) (fun self x ⟨i, h1, h2, h3⟩ hs => ?_) (n := BIG) (x := (s0, 0)) (by simp; exact hl) ⟨0, rfl, by simp, h0⟩
  · simpa using this
  · obtain ⟨s, j⟩ := x
    simp only at h1 h2 h3
    subst h1
    by_cases hi : i < a.length
    · have hy := List.getElem?_eq_getElem hi
      rw [hF self s i a[i] hy h3, hs _ ⟨i + 1, rfl, hi, hI _ _ _ hy h3⟩ (by simp; omega)]
      simp only [Int.toNat_natCast]
      rw [List.drop_eq_getElem_cons hi, List.foldl_cons]
    · have : i = a.length := by omega
      subst this
      rw [hE self s h3]
      simp
theorem set_take_drop {α : Type} {a t : List α} {i : Nat} {z : α} (ht : t.length = a.length) (hi : i < a.length) (hz : t[i]? = some z) : (t.take i ++ a.drop i).set i z = t.take (i + 1) ++ a.drop (i + 1) := by
  have hi' : i < t.length := by omega
  rw [List.getElem?_eq_getElem hi', Option.some.injEq] at hz
  subst hz
  rw [List.set_append_right _ _ (by simp; omega), List.drop_eq_getElem_cons hi, show i - (t.take i).length = 0 from by simp; omega, List.set_cons_zero, List.take_succ_eq_append_getElem hi', List.append_assoc]
  rfl
/-- A row bears marks that go from a number to a number. -/
def HdL {α : Type} (hd : Int → α → Int → Prop) : Int → List α → Int → Prop
  | k, [], k' => k' = k
  | k, z :: t, k' => ∃ k1, hd k z k1 ∧ HdL hd k1 t k'
theorem HdL.snoc {α : Type} {hd : Int → α → Int → Prop} : ∀ {t : List α} {k k1 k2 : Int} {z : α}, HdL hd k t k1 → hd k1 z k2 → HdL hd k (t ++ [z]) k2
  | [], _, _, _, _, h, h' => by cases h; exact ⟨_, h', rfl⟩
  | _ :: _, _, _, _, _, ⟨k3, h1, h2⟩, h' => ⟨k3, h1, h2.snoc h'⟩
/-- Two vertices hang together by edges. -/
inductive Con (E : List (Int × Int)) : Int → Int → Prop
  | refl (v : Int) : Con E v v
  | fwd {u v w : Int} : Con E u v → (v, w) ∈ E → Con E u w
  | bwd {u v w : Int} : Con E u v → (w, v) ∈ E → Con E u w
theorem Con.trans {E : List (Int × Int)} {u v w : Int} (h : Con E u v) (h' : Con E v w) : Con E u w := by
  induction h' with
  | refl => exact h
  | fwd _ he ih => exact .fwd ih he
  | bwd _ he ih => exact .bwd ih he
theorem Con.symm {E : List (Int × Int)} {u v : Int} (h : Con E u v) : Con E v u := by
  induction h with
  | refl => exact .refl _
  | fwd _ he ih => exact Con.trans (.bwd (.refl _) he) ih
  | bwd _ he ih => exact Con.trans (.fwd (.refl _) he) ih
theorem Con.mono {E E' : List (Int × Int)} (hE : ∀ e, e ∈ E → e ∈ E') {u v : Int} (h : Con E u v) : Con E' u v := by
  induction h with
  | refl => exact .refl _
  | fwd _ he ih => exact .fwd ih (hE _ he)
  | bwd _ he ih => exact .bwd ih (hE _ he)
theorem Con.of {E : List (Int × Int)} {u v : Int} (h : (u, v) ∈ E) : Con E u v := .fwd (.refl _) h
theorem Con.nil {u v : Int} (h : Con [] u v) : u = v := by
  induction h with
  | refl => rfl
  | fwd _ he _ => cases he
  | bwd _ he _ => cases he
theorem Con.snoc {E : List (Int × Int)} {a b u v : Int} : Con (E ++ [(a, b)]) u v ↔ Con E u v ∨ (Con E u a ∧ Con E b v) ∨ (Con E u b ∧ Con E a v) := by
  constructor
  · intro h
    induction h with
    | refl => exact .inl (.refl _)
    | fwd _ he ih =>
      rcases List.mem_append.1 he with h1 | h1
      · rcases ih with h | ⟨h, h'⟩ | ⟨h, h'⟩
        · exact .inl (.fwd h h1)
        · exact .inr (.inl ⟨h, .fwd h' h1⟩)
        · exact .inr (.inr ⟨h, .fwd h' h1⟩)
      · cases List.mem_singleton.1 h1
        rcases ih with h | ⟨h, h'⟩ | ⟨h, h'⟩
        · exact .inr (.inl ⟨h, .refl _⟩)
        · exact .inr (.inl ⟨h, .refl _⟩)
        · exact .inl h
    | bwd _ he ih =>
      rcases List.mem_append.1 he with h1 | h1
      · rcases ih with h | ⟨h, h'⟩ | ⟨h, h'⟩
        · exact .inl (.bwd h h1)
        · exact .inr (.inl ⟨h, .bwd h' h1⟩)
        · exact .inr (.inr ⟨h, .bwd h' h1⟩)
      · cases List.mem_singleton.1 h1
        rcases ih with h | ⟨h, h'⟩ | ⟨h, h'⟩
        · exact .inr (.inr ⟨h, .refl _⟩)
        · exact .inl h
        · exact .inr (.inr ⟨h, .refl _⟩)
  · have hm : ∀ {x y : Int}, Con E x y → Con (E ++ [(a, b)]) x y := fun h => h.mono fun e he => List.mem_append_left _ he
    have hab : Con (E ++ [(a, b)]) a b := .of (List.mem_append_right _ (List.mem_singleton.2 rfl))
    rintro (h | ⟨h, h'⟩ | ⟨h, h'⟩)
    · exact hm h
    · exact (hm h).trans (hab.trans (hm h'))
    · exact (hm h).trans (hab.symm.trans (hm h'))
/-- Edges of so many vertices. -/
def EIn (n : Nat) (E : List (Int × Int)) : Prop := ∀ e, e ∈ E → 0 ≤ e.1 ∧ e.1 < n ∧ 0 ≤ e.2 ∧ e.2 < n
theorem Con.range {n : Nat} {E : List (Int × Int)} (hE : EIn n E) {u v : Int} (h : Con E u v) (hu : 0 ≤ u ∧ u < n) : 0 ≤ v ∧ v < n := by
  induction h with
  | refl => exact hu
  | fwd _ he _ => exact ⟨(hE _ he).2.2.1, (hE _ he).2.2.2⟩
  | bwd _ he _ => exact ⟨(hE _ he).1, (hE _ he).2.1⟩
/-- Labels: to each vertex the least one that it hangs together with. -/
def Lab (n : Nat) (E : List (Int × Int)) (l : List Int) : Prop :=
  l.length = n ∧ ∀ (v : Nat) (x : Int), l[v]? = some x → Con E v x ∧ 0 ≤ x ∧ ∀ u : Int, 0 ≤ u → Con E v u → x ≤ u
theorem Lab.le {n : Nat} {E : List (Int × Int)} {l : List Int} (h : Lab n E l) {v : Nat} {x : Int} (hx : l[v]? = some x) : x ≤ v :=
  (h.2 v x hx).2.2 v (Int.natCast_nonneg v) (.refl _)
theorem Lab.lt {n : Nat} {E : List (Int × Int)} {l : List Int} (h : Lab n E l) {v : Nat} {x : Int} (hx : l[v]? = some x) : 0 ≤ x ∧ x < n := by
  have h1 := h.le hx
  have h2 := (List.getElem?_eq_some_iff.1 hx).1
  have h3 := (h.2 v x hx).2.1
  have h4 := h.1
  omega
theorem Lab.iff {n : Nat} {E : List (Int × Int)} {l : List Int} (h : Lab n E l) {u v : Nat} {x y : Int} (hx : l[u]? = some x) (hy : l[v]? = some y) : x = y ↔ Con E u v := by
  have h1 := h.2 u x hx
  have h2 := h.2 v y hy
  constructor
  · intro e
    subst e
    exact h1.1.trans h2.1.symm
  · intro c
    have a := h1.2.2 y h2.2.1 (c.trans h2.1)
    have b := h2.2.2 x h1.2.1 (c.symm.trans h1.1)
    omega
/-- A label is its own label. -/
theorem Lab.self {n : Nat} {E : List (Int × Int)} {l : List Int} (h : Lab n E l) {v : Nat} {x : Int} (hx : l[v]? = some x) : l[x.toNat]? = some x := by
  have h1 := h.lt hx
  have hi : x.toNat < l.length := by rw [h.1]; omega
  rw [List.getElem?_eq_getElem hi]
  have h2 := h.2 v x hx
  have hc : Con E (x.toNat : Int) v := by rw [Int.toNat_of_nonneg h1.1]; exact h2.1.symm
  rw [(h.iff (List.getElem?_eq_getElem hi) hx).2 hc]
/-- Labels without edges. -/
def lab0 (n : Nat) : List Int := (List.range n).map fun (i : Nat) => (i : Int)
theorem lab0_get {n v : Nat} {x : Int} (h : (lab0 n)[v]? = some x) : v < n ∧ x = v := by
  have hi := (List.getElem?_eq_some_iff.1 h).1
  simp only [lab0, List.length_map, List.length_range] at hi
  simp only [lab0, List.getElem?_map, List.getElem?_range hi, Option.map_some, Option.some.injEq] at h
  exact ⟨hi, h.symm⟩
theorem lab0_len (n : Nat) : (lab0 n).length = n := by simp [lab0]
theorem Lab.zero (n : Nat) : Lab n [] (lab0 n) := by
  refine ⟨lab0_len n, fun v x h => ?_⟩
  obtain ⟨_, rfl⟩ := lab0_get h
  exact ⟨.refl _, Int.natCast_nonneg v, fun u _ h => by rw [h.nil]; exact Int.le_refl _⟩
/-- Two labels made one. -/
def unL (l : List Int) (x y : Int) : List Int := l.map fun z => if z = (if y > x then y else x) then (if y < x then y else x) else z
theorem unL_len (l : List Int) (x y : Int) : (unL l x y).length = l.length := by simp [unL]
theorem unL_same (l : List Int) (x : Int) : unL l x x = l := by
  unfold unL
  conv => rhs; rw [← List.map_id l]
  apply List.map_congr_left
  intro z _
  simp only [gt_iff_lt, Int.lt_irrefl, if_false, id]
  split <;> simp_all
theorem Lab.union {n : Nat} {E : List (Int × Int)} {l : List Int} (h : Lab n E l) {a b : Nat} {x y : Int} (hx : l[a]? = some x) (hy : l[b]? = some y) : Lab n (E ++ [((a : Int), (b : Int))]) (unL l x y) := by
  refine ⟨by rw [unL_len, h.1], fun v z hz => ?_⟩
  simp only [unL, List.getElem?_map, Option.map_eq_some_iff] at hz
  obtain ⟨w, hw, hz⟩ := hz
  have hax := h.2 a x hx
  have hby := h.2 b y hy
  have hvw := h.2 v w hw
  have ew : ∀ {c : Nat} {t : Int}, l[c]? = some t → (w = t ↔ Con E v c) := fun hc => h.iff hw hc
  have hA := ew hx
  have hB := ew hy
  have hab : Con (E ++ [((a : Int), (b : Int))]) a b := .of (List.mem_append_right _ (List.mem_singleton.2 rfl))
  have hm : ∀ {s t : Int}, Con E s t → Con (E ++ [((a : Int), (b : Int))]) s t := fun h => h.mono fun e he => List.mem_append_left _ he
  by_cases hxy : x = y
  · subst hxy
    have hcab : Con E a b := (h.iff hx hy).1 rfl
    have : z = w := by
      subst hz
      simp only [gt_iff_lt, Int.lt_irrefl, if_false]
      split <;> simp_all
    subst this
    refine ⟨hm hvw.1, hvw.2.1, fun u hu hc => ?_⟩
    apply hvw.2.2 u hu
    rcases Con.snoc.1 hc with h1 | ⟨h1, h2⟩ | ⟨h1, h2⟩
    · exact h1
    · exact h1.trans (hcab.trans h2)
    · exact h1.trans (hcab.symm.trans h2)
  · have key : ∀ u : Int, 0 ≤ u → Con (E ++ [((a : Int), (b : Int))]) v u → (w ≤ u) ∨ (w = x ∧ y ≤ u) ∨ (w = y ∧ x ≤ u) := by
      intro u hu hc
      rcases Con.snoc.1 hc with h1 | ⟨h1, h2⟩ | ⟨h1, h2⟩
      · exact .inl (hvw.2.2 u hu h1)
      · exact .inr (.inl ⟨hA.2 h1, hby.2.2 u hu h2⟩)
      · exact .inr (.inr ⟨hB.2 h1, hax.2.2 u hu h2⟩)
    by_cases hwx : w = x
    · have hva := hA.1 hwx
      subst hwx
      by_cases hlt : y > w
      · rw [if_pos hlt, if_neg (by omega)] at hz
        subst hz
        refine ⟨hm hvw.1, hvw.2.1, fun u hu hc => ?_⟩
        rcases key u hu hc with h1 | h1 | h1 <;> omega
      · rw [if_neg hlt, if_pos rfl, if_pos (by omega)] at hz
        subst hz
        refine ⟨(hm hva).trans (hab.trans (hm hby.1)), hby.2.1, fun u hu hc => ?_⟩
        rcases key u hu hc with h1 | h1 | h1 <;> omega
    · by_cases hwy : w = y
      · have hvb := hB.1 hwy
        subst hwy
        by_cases hlt : w > x
        · rw [if_pos hlt, if_pos rfl, if_neg (by omega)] at hz
          subst hz
          refine ⟨(hm hvb).trans (hab.symm.trans (hm hax.1)), hax.2.1, fun u hu hc => ?_⟩
          rcases key u hu hc with h1 | h1 | h1 <;> omega
        · rw [if_neg hlt, if_neg hwx] at hz
          subst hz
          refine ⟨hm hvw.1, hvw.2.1, fun u hu hc => ?_⟩
          rcases key u hu hc with h1 | h1 | h1 <;> omega
      · rw [if_neg (by split <;> omega)] at hz
        subst hz
        refine ⟨hm hvw.1, hvw.2.1, fun u hu hc => ?_⟩
        rcases key u hu hc with h1 | h1 | h1 <;> omega
/-- One edge's part in the labels. -/
def unE (l : List Int) (e : Int × Int) : List Int := unL l (l.getD e.1.toNat 0) (l.getD e.2.toNat 0)
theorem unE_len (l : List Int) (e : Int × Int) : (unE l e).length = l.length := unL_len _ _ _
theorem Lab.unE {n : Nat} {E : List (Int × Int)} {l : List Int} (h : Lab n E l) {e : Int × Int} (he : 0 ≤ e.1 ∧ e.1 < n ∧ 0 ≤ e.2 ∧ e.2 < n) : Lab n (E ++ [e]) (unE l e) := by
  have h1 : e.1.toNat < l.length := by rw [h.1]; omega
  have h2 : e.2.toNat < l.length := by rw [h.1]; omega
  have := h.union (a := e.1.toNat) (b := e.2.toNat) (List.getElem?_eq_getElem h1) (List.getElem?_eq_getElem h2)
  rw [Int.toNat_of_nonneg he.1, Int.toNat_of_nonneg he.2.2.1] at this
  unfold Go.Fw.unE
  rw [List.getD_eq_getElem?_getD, List.getD_eq_getElem?_getD, List.getElem?_eq_getElem h1, List.getElem?_eq_getElem h2]
  exact this
theorem Lab.fold {n : Nat} : ∀ {D E : List (Int × Int)} {l : List Int}, Lab n E l → EIn n D → Lab n (E ++ D) (D.foldl Go.Fw.unE l)
  | [], E, l, h, _ => by simpa using h
  | e :: D, E, l, h, hD => by
    have := Lab.fold (D := D) (h.unE (hD e (List.mem_cons_self ..))) fun x hx => hD x (List.mem_cons_of_mem _ hx)
    rw [List.foldl_cons]
    rwa [List.append_assoc] at this
/-- The labels by edges. -/
def labs (n : Nat) (E : List (Int × Int)) : List Int := E.foldl unE (lab0 n)
theorem labs_ok {n : Nat} {E : List (Int × Int)} (h : EIn n E) : Lab n E (labs n E) := by
  have := (Lab.zero n).fold h
  simpa [labs] using this
theorem labs_len (n : Nat) (E : List (Int × Int)) : (labs n E).length = n := by
  have : ∀ (E : List (Int × Int)) (l : List Int), (E.foldl unE l).length = l.length := by
    intro E
    induction E with
    | nil => simp
    | cons e E ih => intro l; rw [List.foldl_cons, ih, unE_len]
  rw [labs, this, lab0_len]
/-- One edge's part in a round of labels that are made less and less. -/
def rlE (l : List Int) (e : Int × Int) : List Int :=
  let x := l.getD e.1.toNat 0
  let y := l.getD e.2.toNat 0
  let l := if x < y then l.set e.2.toNat x else l
  if y < x then l.set e.1.toNat y else l
theorem rlE_len (l : List Int) (e : Int × Int) : (rlE l e).length = l.length := by
  unfold rlE; simp only; split <;> split <;> simp
def lrnd (E : List (Int × Int)) (l : List Int) : List Int := E.foldl rlE l
theorem lrnd_len : ∀ (E : List (Int × Int)) (l : List Int), (lrnd E l).length = l.length
  | [], l => rfl
  | e :: E, l => by show (lrnd E (rlE l e)).length = _; rw [lrnd_len E, rlE_len]
section
variable {n : Nat} {E : List (Int × Int)} {L : List Int}
/-- On the way down to the labels. -/
def Dn (n : Nat) (E : List (Int × Int)) (l : List Int) : Prop := l.length = n ∧ ∀ (v : Nat) (x : Int), l[v]? = some x → Con E v x ∧ 0 ≤ x
theorem Dn.ge (hL : Lab n E L) {l : List Int} (h : Dn n E l) {v : Nat} {x y : Int} (hx : l[v]? = some x) (hy : L[v]? = some y) : y ≤ x :=
  (hL.2 v y hy).2.2 x (h.2 v x hx).2 (h.2 v x hx).1
theorem Dn.set {l : List Int} (h : Dn n E l) {v : Nat} {x : Int} (hc : Con E v x) (h0 : 0 ≤ x) : Dn n E (l.set v x) := by
  refine ⟨by simp [h.1], fun u y hu => ?_⟩
  rw [List.getElem?_set] at hu
  split at hu
  · subst v
    split at hu
    · cases hu; exact ⟨hc, h0⟩
    · cases hu
  · exact h.2 u y hu
theorem getD_at {l : List Int} {i : Nat} (h : i < l.length) : l[i]? = some (l.getD i 0) := by
  rw [List.getD_eq_getElem?_getD, List.getElem?_eq_getElem h]; rfl
/-- What an edge's part does. -/
theorem Dn.rlE (hL : Lab n E L) {l : List Int} (h : Dn n E l) {e : Int × Int} (hm : e ∈ E) (he : 0 ≤ e.1 ∧ e.1 < n ∧ 0 ≤ e.2 ∧ e.2 < n) :
    Dn n E (rlE l e) ∧ (∀ (v : Nat), (rlE l e).getD v 0 ≤ l.getD v 0) ∧
    (l.getD e.1.toNat 0 = L.getD e.1.toNat 0 → (rlE l e).getD e.2.toNat 0 = L.getD e.2.toNat 0) ∧
    (l.getD e.2.toNat 0 = L.getD e.2.toNat 0 → (rlE l e).getD e.1.toNat 0 = L.getD e.1.toNat 0) := by
  obtain ⟨h1, h2, h3, h4⟩ := he
  have i1 : e.1.toNat < l.length := by rw [h.1]; omega
  have i2 : e.2.toNat < l.length := by rw [h.1]; omega
  have j1 : e.1.toNat < L.length := by rw [hL.1]; omega
  have j2 : e.2.toNat < L.length := by rw [hL.1]; omega
  have c12 : Con E (e.1.toNat : Int) (e.2.toNat : Int) := by
    rw [Int.toNat_of_nonneg h1, Int.toNat_of_nonneg h3]; exact .of hm
  have hLe := (hL.iff (getD_at j1) (getD_at j2)).2 c12
  have a1 := h.2 _ _ (getD_at i1)
  have a2 := h.2 _ _ (getD_at i2)
  have g1 := h.ge hL (getD_at i1) (getD_at j1)
  have g2 := h.ge hL (getD_at i2) (getD_at j2)
  have gs : ∀ (i : Nat) (z : Int) (v : Nat), i < l.length → (l.set i z).getD v 0 = if i = v then z else l.getD v 0 := by
    intro i z v hi
    rw [List.getD_eq_getElem?_getD, List.getElem?_set]
    split
    · subst v; simp
    · rw [List.getD_eq_getElem?_getD]
  unfold Go.Fw.rlE
  simp only
  by_cases hlt : l.getD e.1.toNat 0 < l.getD e.2.toNat 0
  · rw [if_pos hlt, if_neg (by omega)]
    refine ⟨h.set (c12.symm.trans a1.1) a1.2, fun v => ?_, fun hd => ?_, fun hd => ?_⟩
    · rw [gs _ _ _ i2]
      split
      · subst v; omega
      · exact Int.le_refl _
    · rw [gs _ _ _ i2, if_pos rfl]; omega
    · omega
  · rw [if_neg hlt]
    by_cases hgt : l.getD e.2.toNat 0 < l.getD e.1.toNat 0
    · rw [if_pos hgt]
      refine ⟨h.set (c12.trans a2.1) a2.2, fun v => ?_, fun hd => ?_, fun hd => ?_⟩
      · rw [gs _ _ _ i1]
        split
        · subst v; omega
        · exact Int.le_refl _
      · omega
      · rw [gs _ _ _ i1, if_pos rfl]; omega
    · rw [if_neg hgt]
      refine ⟨h, fun v => Int.le_refl _, fun hd => ?_, fun hd => ?_⟩ <;> omega
theorem Dn.rnd (hL : Lab n E L) (hE : EIn n E) : ∀ (D : List (Int × Int)) (l : List Int), (∀ e, e ∈ D → e ∈ E) → Dn n E l →
    Dn n E (lrnd D l) ∧ (∀ v : Nat, (lrnd D l).getD v 0 ≤ l.getD v 0) ∧
    ∀ e, e ∈ D → (l.getD e.1.toNat 0 = L.getD e.1.toNat 0 → (lrnd D l).getD e.2.toNat 0 = L.getD e.2.toNat 0) ∧ (l.getD e.2.toNat 0 = L.getD e.2.toNat 0 → (lrnd D l).getD e.1.toNat 0 = L.getD e.1.toNat 0)
  | [], l, _, h => ⟨h, fun v => Int.le_refl _, fun e he => by cases he⟩
  | e :: D, l, hs, h => by
    have hm := hs e (List.mem_cons_self ..)
    obtain ⟨h1, h2, h3, h4⟩ := h.rlE hL hm (hE e hm)
    obtain ⟨k1, k2, k3⟩ := Dn.rnd hL hE D (Go.Fw.rlE l e) (fun x hx => hs x (List.mem_cons_of_mem _ hx)) h1
    -- what is done stays done
    have dn : ∀ {l' : List Int} (v : Nat), v < n → Dn n E l' → (∀ u : Nat, l'.getD u 0 ≤ l.getD u 0) → l.getD v 0 = L.getD v 0 → l'.getD v 0 = L.getD v 0 := by
      intro l' v hv hl' hle hd
      have hg := hl'.ge hL (getD_at (l := l') (i := v) (by rw [hl'.1]; exact hv)) (getD_at (l := L) (i := v) (by rw [hL.1]; exact hv))
      have := hle v
      omega
    have dn' : ∀ (v : Nat), v < n → (Go.Fw.rlE l e).getD v 0 = L.getD v 0 → (Go.Fw.lrnd D (Go.Fw.rlE l e)).getD v 0 = L.getD v 0 := by
      intro v hv hd
      have hg := k1.ge hL (getD_at (i := v) (by rw [k1.1]; exact hv)) (getD_at (l := L) (i := v) (by rw [hL.1]; exact hv))
      have := k2 v
      omega
    refine ⟨k1, fun v => Int.le_trans (k2 v) (h2 v), fun e' he' => ?_⟩
    rcases List.mem_cons.1 he' with rfl | he'
    · have hb := hE _ hm
      exact ⟨fun hd => dn' _ (by omega) (h3 hd), fun hd => dn' _ (by omega) (h4 hd)⟩
    · have hb := hE _ (hs e' (List.mem_cons_of_mem _ he'))
      exact ⟨fun hd => (k3 e' he').1 (dn _ (by omega) h1 h2 hd), fun hd => (k3 e' he').2 (dn _ (by omega) h1 h2 hd)⟩
/-- How many vertices have their label. -/
def cntD (n : Nat) (L l : List Int) : Nat := (List.range n).countP fun v => decide (l.getD v 0 = L.getD v 0)
theorem countP_lt {p q : Nat → Bool} : ∀ {m : List Nat}, (∀ x, x ∈ m → p x = true → q x = true) → (∃ x, x ∈ m ∧ p x = false ∧ q x = true) → m.countP p < m.countP q
  | [], _, ⟨x, hx, _⟩ => by cases hx
  | a :: m, h, ⟨x, hx, hp, hq⟩ => by
    rw [List.countP_cons, List.countP_cons]
    have hle : m.countP p ≤ m.countP q := List.countP_mono_left fun y hy => h y (List.mem_cons_of_mem _ hy)
    rcases List.mem_cons.1 hx with rfl | hx
    · rw [if_neg (by simp [hp]), if_pos hq]; omega
    · have := countP_lt (fun y hy => h y (List.mem_cons_of_mem _ hy)) ⟨x, hx, hp, hq⟩
      have ha := h a (List.mem_cons_self ..)
      cases hpa : p a with
      | true => rw [ha hpa]; simp; omega
      | false => cases hqa : q a <;> simp <;> omega
theorem con_step {D : Int → Prop} {u v : Int} (h : Con E u v) (hu : D u) (hv : ¬ D v) : ∃ x y : Int, D x ∧ ¬ D y ∧ ((x, y) ∈ E ∨ (y, x) ∈ E) := by
  induction h with
  | refl => exact absurd hu hv
  | @fwd a b _ he ih =>
    by_cases hb : D a
    · exact ⟨_, _, hb, hv, .inl he⟩
    · exact ih hb
  | @bwd a b _ he ih =>
    by_cases hb : D a
    · exact ⟨_, _, hb, hv, .inr he⟩
    · exact ih hb
def lrnds (E : List (Int × Int)) : Nat → List Int → List Int
  | 0, l => l
  | k + 1, l => lrnds E k (Go.Fw.lrnd E l)
/-- A round that does not end it makes one more vertex right. -/
theorem lrnd_more (hL : Lab n E L) (hE : EIn n E) {l : List Int} (h : Dn n E l) (hs : ∀ v : Nat, v < n → L.getD v 0 = v → l.getD v 0 = v) (hne : l ≠ L) :
    cntD n L l < cntD n L (Go.Fw.lrnd E l) := by
  obtain ⟨k1, k2, k3⟩ := Dn.rnd hL hE E l (fun _ h => h) h
  have stay : ∀ v : Nat, v < n → l.getD v 0 = L.getD v 0 → (Go.Fw.lrnd E l).getD v 0 = L.getD v 0 := by
    intro v hv hd
    have hg := k1.ge hL (getD_at (i := v) (by rw [k1.1]; exact hv)) (getD_at (l := L) (i := v) (by rw [hL.1]; exact hv))
    have := k2 v
    omega
  have : ∃ v : Nat, v < n ∧ l.getD v 0 ≠ L.getD v 0 := by
    apply Classical.byContradiction
    intro hn
    apply hne
    apply List.ext_getElem?
    intro i
    by_cases hi : i < n
    · rw [getD_at (l := l) (i := i) (by rw [h.1]; exact hi), getD_at (l := L) (i := i) (by rw [hL.1]; exact hi)]
      congr 1
      exact Classical.byContradiction fun hc => hn ⟨i, hi, hc⟩
    · rw [List.getElem?_eq_none (by rw [h.1]; omega), List.getElem?_eq_none (by rw [hL.1]; omega)]
  obtain ⟨v, hv, hnd⟩ := this
  have gL := getD_at (l := L) (i := v) (by rw [hL.1]; exact hv)
  have hm := hL.lt gL
  have hself := hL.self gL
  have hcon := (hL.2 v _ gL).1
  obtain ⟨x, y, hx, hy, he⟩ := con_step (D := fun z : Int => 0 ≤ z ∧ z < n ∧ l.getD z.toNat 0 = L.getD z.toNat 0) hcon.symm
    ⟨hm.1, hm.2, by
      have e1 : L.getD (L.getD v 0).toNat 0 = L.getD v 0 := by rw [List.getD_eq_getElem?_getD (i := (L.getD v 0).toNat), hself]; rfl
      rw [e1, hs (L.getD v 0).toNat (by omega) (by rw [e1]; omega)]; omega⟩
    (fun hd => hnd (by simpa using hd.2.2))
  refine countP_lt (fun z hz hp => ?_) ⟨y.toNat, ?_, ?_, ?_⟩
  · simp only [decide_eq_true_eq] at hp ⊢
    exact stay z (List.mem_range.1 hz) hp
  · rw [List.mem_range]
    rcases he with he | he <;> have := hE _ he <;> simp only at this <;> omega
  · simp only [decide_eq_false_iff_not]
    intro hd
    apply hy
    rcases he with he | he <;> have := hE _ he <;> simp only at this <;> exact ⟨by omega, by omega, hd⟩
  · simp only [decide_eq_true_eq]
    rcases he with he | he
    · exact (k3 _ he).1 hx.2.2
    · exact (k3 _ he).2 hx.2.2
theorem lrnds_end (hL : Lab n E L) (hE : EIn n E) : ∀ (k : Nat) (l : List Int), Dn n E l → (∀ v : Nat, v < n → L.getD v 0 = v → l.getD v 0 = v) → n ≤ cntD n L l + k → lrnds E k l = L
  | 0, l, h, hs, hc => by
    have hall : cntD n L l = n := by
      have : cntD n L l ≤ (List.range n).length := List.countP_le_length
      rw [List.length_range] at this; omega
    apply Classical.byContradiction
    intro hne
    have := lrnd_more hL hE h hs hne
    have : cntD n L (Go.Fw.lrnd E l) ≤ (List.range n).length := List.countP_le_length
    rw [List.length_range] at this
    omega
  | k + 1, l, h, hs, hc => by
    obtain ⟨k1, k2, _⟩ := Dn.rnd hL hE E l (fun _ h => h) h
    refine lrnds_end hL hE k (Go.Fw.lrnd E l) k1 (fun v hv e => ?_) ?_
    · have hg := k1.ge hL (getD_at (i := v) (by rw [k1.1]; exact hv)) (getD_at (l := L) (i := v) (by rw [hL.1]; exact hv))
      have := k2 v
      have := hs v hv e
      omega
    · by_cases hne : l = L
      · subst hne
        have : cntD n l (Go.Fw.lrnd E l) = n := by
          unfold cntD
          rw [show n = (List.range n).length from by simp, ← List.length_range (n := n), List.countP_eq_length.2]
          · simp
          · intro v hv
            simp only [List.length_range, List.mem_range] at hv
            simp only [decide_eq_true_eq]
            have hg := k1.ge hL (getD_at (i := v) (by rw [k1.1]; exact hv)) (getD_at (l := l) (i := v) (by rw [hL.1]; exact hv))
            have := k2 v
            omega
        omega
      · have := lrnd_more hL hE h hs hne
        omega
/-- So many rounds as there are vertices make the labels. -/
theorem lrnds_labs (hE : EIn n E) : lrnds E n (lab0 n) = labs n E := by
  refine lrnds_end (labs_ok hE) hE n (lab0 n) ⟨lab0_len n, fun v x h => ?_⟩ (fun v hv e => ?_) (by omega)
  · obtain ⟨_, rfl⟩ := lab0_get h
    exact ⟨.refl _, Int.natCast_nonneg v⟩
  · have := getD_at (l := lab0 n) (i := v) (by rw [lab0_len]; exact hv)
    exact (lab0_get this).2
end
theorem h_sl01In (a b c : Int) : g_sl01In (a, b, c) = some (decide (b ≤ a) && decide (a ≤ c), ()) := by
  show f_sl01In BIG _ = _
  rw [e_sl01In]
  cases decide (b ≤ a) <;> rfl
theorem h_iin (a b c : Int) : g_iin (a, b, c) = some (decide (b ≤ a) && decide (a ≤ c), ()) := by
  show f_iin BIG _ = _
  rw [e_iin]
  cases decide (b ≤ a) <;> rfl
abbrev Ed := Int × Int
theorem foldl_filter {α : Type} (p : α → Bool) : ∀ (l : List α) (s : List α), l.foldl (fun s y => if p y then s ++ [y] else s) s = s ++ l.filter p
  | [], s => by simp
  | y :: l, s => by
    rw [List.foldl_cons, foldl_filter p l]
    cases h : p y <;> simp [h]
abbrev Sd := Int × Int × Int × Int × Int × Int
def inB (a b c : Int) : Bool := decide (b ≤ a) && decide (a ≤ c)
theorem h_sl01In' (a b c : Int) : g_sl01In (a, b, c) = some (inB a b c, ()) := h_sl01In a b c
theorem h_iin' (a b c : Int) : g_iin (a, b, c) = some (inB a b c, ()) := h_iin a b c
theorem inB_t {a b c : Int} : inB a b c = true ↔ b ≤ a ∧ a ≤ c := by simp [inB]
def edB (n : Int) (e : Ed) : Bool := inB n 1 12 && (inB e.1 0 (n - 1) && (inB e.2 0 (n - 1) && decide (e.1 < e.2)))
theorem h_iEdgeOk (n : Int) (e : Ed) : g_iEdgeOk (n, e) = some (edB n e, ()) := by
  show f_iEdgeOk BIG _ = _
  rw [e_iEdgeOk, h_iin', Option.bind_some]
  unfold edB
  cases h : inB n 1 12 with
  | false => rfl
  | true =>
    have := inB_t.1 h
    rw [wr (by omega) (by omega)]
    simp only [h_iin', Option.bind_some, cond_true, Bool.true_and]
    cases inB e.1 0 (n - 1) <;> cases inB e.2 0 (n - 1) <;> rfl
theorem h_sEdgeOk (n : Int) (e : Ed) : g_sEdgeOk (n, e) = some (edB n e, ()) := by
  show f_sEdgeOk BIG _ = _
  rw [e_sEdgeOk, h_sl01In', Option.bind_some]
  unfold edB
  cases h : inB n 1 12 with
  | false => rfl
  | true =>
    have := inB_t.1 h
    rw [wr (by omega) (by omega)]
    simp only [h_sl01In', Option.bind_some, cond_true, Bool.true_and]
    cases inB e.1 0 (n - 1) <;> cases inB e.2 0 (n - 1) <;> rfl
def lsB (x y : Ed) : Bool := decide (x.1 < y.1) || (decide (x.1 = y.1) && decide (x.2 < y.2))
theorem h_iahead (x y : Ed) : g_iahead (x, y) = some (lsB x y, ()) := by
  show f_iahead BIG _ = _
  rw [e_iahead]
  unfold lsB
  cases decide (x.1 < y.1) <;> cases decide (x.1 = y.1) <;> rfl
theorem h_sl05Less (x y : Ed) : g_sl05Less (x, y) = some (lsB x y, ()) := by
  show f_sl05Less BIG _ = _
  rw [e_sl05Less]
  unfold lsB
  cases decide (x.1 < y.1) <;> cases decide (x.1 = y.1) <;> rfl
def eP (n : Int) (es : List Ed) (i : Nat) : Bool := match es[i]? with
  | some y => edB n y && (match i with
    | 0 => true
    | j + 1 => match es[j]? with
      | some x => lsB x y
      | none => false)
  | none => false
theorem eP_0 {n : Int} {es : List Ed} {y : Ed} (h : es[0]? = some y) : eP n es 0 = edB n y := by
  unfold eP; rw [h]; simp
theorem eP_s {n : Int} {es : List Ed} {x y : Ed} {j : Nat} (h : es[j + 1]? = some y) (h' : es[j]? = some x) : eP n es (j + 1) = (edB n y && lsB x y) := by
  unfold eP; rw [h]; simp only [h']
def eOk (n : Int) (es : List Ed) : Bool := if ∀ i, i < es.length → eP n es i = true then decide ((es.length : Int) ≤ 66) else false
theorem eOk_len {n : Int} {es : List Ed} (h : eOk n es = true) : es.length ≤ 66 := by
  unfold eOk at h
  split at h
  · rw [decide_eq_true_eq] at h; omega
  · cases h
theorem h_iedgesOk (n : Int) (es : List Ed) (hl : es.length ≤ 1048576) : g_iedgesOk (n, es) = some (eOk n es, ()) := by
  have hm : maxLen = 9223372036854775807 := by decide
  show f_iedgesOk BIG _ = _
  rw [e_iedgesOk, allLoop es (by omega) (eP n es) false]
  · unfold eOk
    split <;> rfl
  · intro self i y hy
    have hi := (List.getElem?_eq_some_iff.1 hy).1
    simp only [show ((i : Int) < (es.length : Int)) from by omega, decide_true, cond_true]
    rw [bnd_nat hi, hy, Option.bind_some, h_iEdgeOk, wr1 (by omega)]
    cases i with
    | zero =>
      rw [eP_0 hy]
      cases edB n y <;> simp
    | succ j =>
      have hj : es[j]? = some (es[j]'(by omega)) := List.getElem?_eq_getElem (by omega)
      rw [eP_s hy hj, show (((j + 1 : Nat) : Int) - 1) = (j : Int) from by omega, wr (n := (j : Int)) (by omega) (by omega)]
      cases hb : edB n y with
      | false => simp
      | true =>
        simp only [Option.bind_some, Bool.not_true, cond_false, show (0 : Int) < ((j + 1 : Nat) : Int) from by omega, decide_true, cond_true, Bool.true_and]
        rw [bnd_nat (by omega), hj]
        simp only [Option.bind_some]
        simp only [Option.bind_some, h_iahead]
        cases lsB _ y <;> rfl
  · intro self
    simp
theorem h_sl05Edges (n : Int) (es : List Ed) (hl : es.length ≤ 1048576) : g_sl05Edges (n, es) = some (eOk n es, ()) := by
  have hm : maxLen = 9223372036854775807 := by decide
  show f_sl05Edges BIG _ = _
  rw [e_sl05Edges, allLoop es (by omega) (eP n es) false]
  · unfold eOk
    split <;> rfl
  · intro self i y hy
    have hi := (List.getElem?_eq_some_iff.1 hy).1
    simp only [show ((i : Int) < (es.length : Int)) from by omega, decide_true, cond_true]
    rw [bnd_nat hi, hy, Option.bind_some, h_sEdgeOk, wr1 (by omega)]
    cases i with
    | zero =>
      rw [eP_0 hy]
      cases edB n y <;> simp
    | succ j =>
      have hj : es[j]? = some (es[j]'(by omega)) := List.getElem?_eq_getElem (by omega)
      rw [eP_s hy hj, show (((j + 1 : Nat) : Int) - 1) = (j : Int) from by omega, wr (n := (j : Int)) (by omega) (by omega)]
      cases hb : edB n y with
      | false => simp
      | true =>
        simp only [Option.bind_some, Bool.not_true, cond_false, show (0 : Int) < ((j + 1 : Nat) : Int) from by omega, decide_true, cond_true, Bool.true_and]
        rw [bnd_nat (by omega), hj]
        simp only [Option.bind_some]
        rw [bnd_nat hi, hy]
        simp only [Option.bind_some, h_sl05Less]
        cases lsB _ y <;> rfl
  · intro self
    simp
abbrev Or' := Int × Int × List (Int × Int) × Int
def ordB (n : Int) (o : Or') : Bool := inB n 1 12 && (inB o.1 1 100000 && (inB o.2.1 1 4 && (eOk n o.2.2.1 && (if o.2.1 = 3 then decide (o.2.2.1.length = 0) && inB o.2.2.2 0 (n - 1) else if o.2.1 = 4 then decide (0 < o.2.2.1.length) && decide (o.2.2.2 = 0) else decide (o.2.2.1.length = 1) && decide (o.2.2.2 = 0)))))
theorem h_sOrderOk (n : Int) (o : Or') (hl : o.2.2.1.length ≤ 1048576) : g_sOrderOk (n, o) = some (ordB n o, ()) := by
  show f_sOrderOk BIG _ = _
  rw [e_sOrderOk]
  simp only [h_sl01In', h_sl05Edges n _ hl, Option.bind_some]
  unfold ordB
  cases h : inB n 1 12 with
  | false => rfl
  | true =>
    have := inB_t.1 h
    rw [wr (by omega) (by omega)]
    cases h1 : inB o.1 1 100000 with
    | false => rfl
    | true =>
      cases h2 : inB o.2.1 1 4 with
      | false => rfl
      | true =>
        cases h3 : eOk n o.2.2.1 with
        | false => rfl
        | true =>
          simp only [Bool.not_true, cond_false, Option.bind_some, Bool.true_and]
          by_cases k3 : o.2.1 = 3
          · rw [if_pos k3, decide_eq_true k3, cond_true]
            by_cases hz : o.2.2.1.length = 0
            · rw [decide_eq_true hz, decide_eq_true (by omega)]; rfl
            · rw [decide_eq_false hz, decide_eq_false (by omega)]; rfl
          · rw [if_neg k3, decide_eq_false k3, cond_false]
            by_cases k4 : o.2.1 = 4
            · rw [if_pos k4, decide_eq_true k4, cond_true]
              by_cases hz : 0 < o.2.2.1.length
              · rw [decide_eq_true hz, decide_eq_true (by omega)]; rfl
              · rw [decide_eq_false hz, decide_eq_false (by omega)]; rfl
            · rw [if_neg k4, decide_eq_false k4, cond_false]
              by_cases hz : o.2.2.1.length = 1
              · rw [decide_eq_true hz, decide_eq_true (by omega)]; rfl
              · rw [decide_eq_false hz, decide_eq_false (by omega)]; rfl
theorem h_iOrderOk (n : Int) (o : Or') (hl : o.2.2.1.length ≤ 1048576) : g_iOrderOk (n, o) = some (ordB n o, ()) := by
  show f_iOrderOk BIG _ = _
  rw [e_iOrderOk]
  simp only [h_iin', h_iedgesOk n _ hl, Option.bind_some]
  unfold ordB
  cases h : inB n 1 12 with
  | false => rfl
  | true =>
    have := inB_t.1 h
    rw [wr (by omega) (by omega)]
    cases h1 : inB o.1 1 100000 with
    | false => rfl
    | true =>
      cases h3 : eOk n o.2.2.1 with
      | false => simp
      | true =>
        simp only [Bool.not_true, cond_false, Option.bind_some, Bool.true_and]
        by_cases k3 : o.2.1 = 3
        · have h2 : inB o.2.1 1 4 = true := inB_t.2 (by omega)
          rw [h2, if_pos k3, decide_eq_true k3]
          rw [decide_eq_false (by omega : ¬ o.2.1 = 1), decide_eq_false (by omega : ¬ o.2.1 = 2)]
          by_cases hz : o.2.2.1.length = 0
          · rw [decide_eq_true hz, decide_eq_true (show (o.2.2.1.length : Int) = 0 from by omega)]; by_cases hv : o.2.2.2 = 0 <;> simp [hv]
          · rw [decide_eq_false hz, decide_eq_false (show ¬ (o.2.2.1.length : Int) = 0 from by omega)]; by_cases hv : o.2.2.2 = 0 <;> simp [hv]
        · rw [if_neg k3, decide_eq_false k3]
          by_cases hv : o.2.2.2 = 0
          · simp only [hv, decide_true, Bool.not_true, cond_false, Option.bind_some, Bool.and_true]
            by_cases k4 : o.2.1 = 4
            · have h2 : inB o.2.1 1 4 = true := inB_t.2 (by omega)
              rw [h2, if_pos k4, decide_eq_true k4, decide_eq_false (by omega : ¬ o.2.1 = 1), decide_eq_false (by omega : ¬ o.2.1 = 2)]
              simp
            · rw [if_neg k4, decide_eq_false k4]
              by_cases k1 : o.2.1 = 1
              · have h2 : inB o.2.1 1 4 = true := inB_t.2 (by omega)
                rw [h2, decide_eq_true k1]
                simp
                omega
              · by_cases k2 : o.2.1 = 2
                · have h2 : inB o.2.1 1 4 = true := inB_t.2 (by omega)
                  rw [h2, decide_eq_false k1, decide_eq_true k2]
                  simp
                  omega
                · have h2 : inB o.2.1 1 4 = false := by
                    cases hh : inB o.2.1 1 4 with
                    | false => rfl
                    | true => have := inB_t.1 hh; omega
                  rw [h2, decide_eq_false k1, decide_eq_false k2]
                  rfl
          · simp [hv]
def lbP (l : List Int) (i : Nat) : Bool := match l[i]? with
  | some y => inB y 0 i && (match l[y.toNat]? with
    | some z => decide (z = y)
    | none => false)
  | none => false
theorem lbP_eq {l : List Int} {i : Nat} {y z : Int} (h : l[i]? = some y) (h' : l[y.toNat]? = some z) : lbP l i = (inB y 0 i && decide (z = y)) := by
  unfold lbP; rw [h]; simp only [h']
theorem lbP_f {l : List Int} {i : Nat} {y : Int} (h : l[i]? = some y) (h' : inB y 0 i = false) : lbP l i = false := by
  unfold lbP; rw [h]; simp only [h', Bool.false_and]
def lbOk (n : Int) (l : List Int) : Bool := if (l.length : Int) = n then (if ∀ i, i < l.length → lbP l i = true then true else false) else false
theorem h_ilabelsOk (n : Int) (l : List Int) (hl : l.length ≤ 1048576) : g_ilabelsOk (n, l) = some (lbOk n l, ()) := by
  have hm : maxLen = 9223372036854775807 := by decide
  show f_ilabelsOk BIG _ = _
  rw [e_ilabelsOk]
  unfold lbOk
  by_cases hn : (l.length : Int) = n
  · rw [if_pos hn, decide_eq_true hn, Bool.not_true, cond_false, allLoop l (by omega) (lbP l) false]
    · split <;> rfl
    · intro self i y hy
      have hi := (List.getElem?_eq_some_iff.1 hy).1
      simp only [show ((i : Int) < (l.length : Int)) from by omega, decide_true, cond_true]
      rw [bnd_nat hi, hy, Option.bind_some, h_iin', wr1 (by omega)]
      cases hb : inB y 0 (i : Int) with
      | false => rw [lbP_f hy hb]; simp
      | true =>
        have := inB_t.1 hb
        have hz : l[y.toNat]? = some (l[y.toNat]'(by omega)) := List.getElem?_eq_getElem (by omega)
        rw [lbP_eq hy hz, hb]
        simp only [Option.bind_some, Bool.not_true, cond_false, Bool.true_and]
        rw [bnd_ok (by omega) (by omega), hz]
        simp only [Option.bind_some]
        by_cases hd : l[y.toNat]'(by omega) = y <;> simp [hd]
    · intro self
      simp
  · rw [if_neg hn, decide_eq_false hn]; rfl
theorem h_sl09Labels (n : Int) (l : List Int) (hl : l.length ≤ 1048576) : g_sl09Labels (n, l) = some (lbOk n l, ()) := by
  have hm : maxLen = 9223372036854775807 := by decide
  show f_sl09Labels BIG _ = _
  rw [e_sl09Labels]
  unfold lbOk
  by_cases hn : (l.length : Int) = n
  · rw [if_pos hn, decide_eq_true hn, Bool.not_true, cond_false]
    subst hn
    rw [allLoop l (by omega) (lbP l) false]
    · split <;> rfl
    · intro self i y hy
      have hi := (List.getElem?_eq_some_iff.1 hy).1
      simp only [show ((i : Int) < (l.length : Int)) from by omega, decide_true, cond_true]
      simp only [bnd_nat hi, hy, Option.bind_some, h_sl01In', wr1 (show i < maxLen from by omega)]
      cases hb : inB y 0 (i : Int) with
      | false => rw [lbP_f hy hb]; simp
      | true =>
        have := inB_t.1 hb
        have hz : l[y.toNat]? = some (l[y.toNat]'(by omega)) := List.getElem?_eq_getElem (by omega)
        rw [lbP_eq hy hz, hb]
        simp only [Option.bind_some, Bool.not_true, cond_false, Bool.true_and]
        rw [bnd_ok (by omega) (by omega), hz]
        simp only [Option.bind_some]
        by_cases hd : l[y.toNat]'(by omega) = y <;> simp [hd]
    · intro self
      simp
  · rw [if_neg hn, decide_eq_false hn]; rfl
abbrev An := Int × Bool × List (Int × Int) × List Int
def ansB (n : Int) (o : An) : Bool := inB n 1 12 && (inB o.1 1 100000 && (eOk n o.2.2.1 && lbOk n o.2.2.2))
theorem h_iAnswerOk (n : Int) (o : An) (hl : o.2.2.1.length ≤ 1048576) (hl' : o.2.2.2.length ≤ 1048576) : g_iAnswerOk (n, o) = some (ansB n o, ()) := by
  show f_iAnswerOk BIG _ = _
  rw [e_iAnswerOk]
  simp only [h_iin', h_iedgesOk n _ hl, h_ilabelsOk n _ hl', Option.bind_some]
  unfold ansB
  cases inB n 1 12 <;> cases inB o.1 1 100000 <;> cases eOk n o.2.2.1 <;> rfl
theorem h_sAnswerOk (n : Int) (o : An) (hl : o.2.2.1.length ≤ 1048576) (hl' : o.2.2.2.length ≤ 1048576) : g_sAnswerOk (n, o) = some (ansB n o, ()) := by
  show f_sAnswerOk BIG _ = _
  rw [e_sAnswerOk]
  simp only [h_sl01In', h_sl05Edges n _ hl, h_sl09Labels n _ hl', Option.bind_some]
  unfold ansB
  cases inB n 1 12 <;> cases inB o.1 1 100000 <;> cases eOk n o.2.2.1 <;> rfl
theorem lsB_irrefl (x : Ed) : lsB x x = false := by simp [lsB]
theorem lsB_iff (x y : Ed) : lsB x y = true ↔ x.1 < y.1 ∨ (x.1 = y.1 ∧ x.2 < y.2) := by simp [lsB]
theorem lsB_trans {x y z : Ed} (h : lsB x y = true) (h' : lsB y z = true) : lsB x z = true := by
  rw [lsB_iff] at *; omega
theorem lsB_tri {x y : Ed} (h : lsB x y = false) (h' : lsB y x = false) : x = y := by
  have h1 : ¬ lsB x y = true := by simp [h]
  have h2 : ¬ lsB y x = true := by simp [h']
  rw [lsB_iff] at h1 h2
  exact Prod.ext (by omega) (by omega)
theorem lsB_asymm {x y : Ed} (h : lsB x y = true) : lsB y x = false := by
  cases h' : lsB y x with
  | false => rfl
  | true => have := lsB_trans h h'; rw [lsB_irrefl] at this; cases this
abbrev Srt (l : List Ed) : Prop := l.Pairwise (fun x y => lsB x y = true)
def ins (l : List Ed) (e : Ed) : List Ed := l.filter (fun y => lsB y e) ++ [e] ++ l.filter (fun y => lsB e y)
theorem ins_mem {l : List Ed} {e x : Ed} : x ∈ ins l e ↔ x = e ∨ x ∈ l := by
  simp only [ins, List.mem_append, List.mem_filter, List.mem_singleton]
  constructor
  · rintro ((h | h) | h)
    · exact .inr h.1
    · exact .inl h
    · exact .inr h.1
  · rintro (h | h)
    · exact .inl (.inr h)
    · cases h1 : lsB x e with
      | true => exact .inl (.inl ⟨h, rfl⟩)
      | false =>
        cases h2 : lsB e x with
        | true => exact .inr ⟨h, rfl⟩
        | false => exact .inl (.inr (lsB_tri h1 h2))
theorem ins_srt {l : List Ed} {e : Ed} (h : Srt l) : Srt (ins l e) := by
  simp only [ins, Srt, List.append_assoc, List.pairwise_append, List.singleton_append, List.pairwise_cons]
  refine ⟨h.filter _, ⟨fun y hy => (List.mem_filter.1 hy).2, h.filter _⟩, fun x hx y hy => ?_⟩
  have h1 := (List.mem_filter.1 hx).2
  rcases List.mem_cons.1 hy with hy | hy
  · subst hy; exact h1
  · exact lsB_trans h1 (List.mem_filter.1 hy).2
theorem filter_two_len (e : Ed) : ∀ l : List Ed, (l.filter (fun y => lsB y e)).length + (l.filter (fun y => lsB e y)).length ≤ l.length
  | [] => by simp
  | y :: l => by
    have := filter_two_len e l
    simp only [List.filter_cons]
    cases h1 : lsB y e <;> cases h2 : lsB e y <;> simp
    · omega
    · omega
    · omega
    · rw [lsB_asymm h1] at h2; cases h2
theorem ins_len (l : List Ed) (e : Ed) : (ins l e).length ≤ l.length + 1 := by
  have := filter_two_len e l
  simp only [ins, List.length_append, List.length_singleton]
  omega
theorem h_sl05Has (l : List Ed) (e : Ed) (hl : l.length ≤ maxLen) : g_sl05Has (l, e) = some (decide (e ∈ l), ()) := by
  show f_sl05Has BIG _ = _
  rw [e_sl05Has, allLoop l (Nat.lt_of_le_of_lt hl maxLen_lt) (fun i => decide (l[i]? ≠ some e)) true (fun self i y hy => by
      have hi := (List.getElem?_eq_some_iff.1 hy).1
      simp only [show ((i : Int) < (l.length : Int)) from by omega, decide_true, cond_true]
      rw [bnd_nat hi, hy, Option.bind_some, wr1 (by omega)]
      obtain ⟨y1, y2⟩ := y
      obtain ⟨e1, e2⟩ := e
      by_cases h1 : y1 = e1 <;> by_cases h2 : y2 = e2 <;> simp [h1, h2]) (fun self => by simp)]
  by_cases h : e ∈ l
  · rw [if_neg, decide_eq_true h]
    · rfl
    · intro hh
      obtain ⟨i, hi⟩ := List.getElem?_of_mem h
      have := hh i (List.getElem?_eq_some_iff.1 hi).1
      rw [decide_eq_true_eq] at this
      exact this hi
  · rw [if_pos, decide_eq_false h]
    · rfl
    · intro i hi
      rw [decide_eq_true_eq]
      exact fun hh => h (List.mem_of_getElem? hh)
theorem h_sl05Put (l : List Ed) (e : Ed) (hl : l.length ≤ 1048576) : g_sl05Put (l, e) = some (ins l e, ()) := by
  have hm : maxLen = 9223372036854775807 := by decide
  show f_sl05Put BIG _ = _
  rw [e_sl05Put, foldLoop l (by omega) (fun i (c : List Ed) => c.length ≤ i) (fun c y => if lsB y e then c ++ [y] else c) id (by simp) (fun i c y _ (h : c.length ≤ i) => by show List.length (if _ then _ else _) ≤ _; split <;> (try simp) <;> omega)]
  · rw [foldl_filter]
    simp only [id, List.nil_append, Option.bind_some]
    have h1 := List.length_filter_le (fun y => lsB y e) l
    rw [decide_eq_true (by simp; omega), cond_true, foldLoop l (by omega) (fun i (c : List Ed) => c.length ≤ l.length + 1 + i) (fun c y => if lsB e y then c ++ [y] else c) id (by simp; omega) (fun i c y _ (h : c.length ≤ _) => by show List.length (if _ then _ else _) ≤ _; split <;> (try simp) <;> omega)]
    · rw [foldl_filter]; rfl
    · intro self c i y hy (hc : c.length ≤ _)
      have hi := (List.getElem?_eq_some_iff.1 hy).1
      simp only [show ((i : Int) < (l.length : Int)) from by omega, decide_true, cond_true]
      simp only [bnd_nat hi, hy, Option.bind_some, h_sl05Less, wr1 (show i < maxLen from by omega)]
      cases lsB e y with
      | false => simp
      | true => simp [show c.length + 1 ≤ 4294967296 from by omega]
    · intro self c hc
      simp
  · intro self c i y hy (hc : c.length ≤ i)
    have hi := (List.getElem?_eq_some_iff.1 hy).1
    simp only [show ((i : Int) < (l.length : Int)) from by omega, decide_true, cond_true]
    simp only [bnd_nat hi, hy, Option.bind_some, h_sl05Less, wr1 (show i < maxLen from by omega)]
    cases lsB y e with
    | false => simp
    | true => simp [show c.length + 1 ≤ 4294967296 from by omega]
  · intro self c hc
    simp
theorem and255 (n : Int) : bits .and .i64 n 255 = n % 256 := by
  have h255 : (BitVec.ofInt 64 255).toNat = 2 ^ 8 - 1 := by decide
  have key : (BitVec.ofInt 64 n &&& BitVec.ofInt 64 255).toNat = (n % ((2 ^ 64 : Nat) : Int)).toNat % 2 ^ 8 := by
    rw [BitVec.toNat_and, BitVec.toNat_ofInt, h255, Nat.and_two_pow_sub_one_eq_mod]
  show IntKind.i64.wrap ((BitVec.ofInt 64 n &&& BitVec.ofInt 64 255).toNat : Nat) = n % 256
  rw [key, IntKind.wrap_i64]
  omega
abbrev Cur := List Int × Int × Int
def curOk (c : Cur) : Prop := c.1.length ≤ 1048576 ∧ 0 ≤ c.2.1 ∧ c.2.1 ≤ c.1.length
theorem h_sl01Byte (c : Cur) (hc : curOk c) : ∃ r c', g_sl01Byte c = some (r, c') ∧ curOk c' ∧ 0 ≤ r ∧ r ≤ 255 := by
  have e : g_sl01Byte c = f_sl01Byte BIG c := rfl
  obtain ⟨h1, h2, h3⟩ := hc
  rw [e, e_sl01Byte, decide_eq_false (by decide), cond_false, decide_eq_false (by decide), cond_false]
  simp only [and255]
  by_cases h : c.2.1 < c.1.length
  · rw [decide_eq_true h, cond_true, bnd_ok h2 h, List.getElem?_eq_getElem (by omega), Option.bind_some, Option.bind_some]
    refine ⟨_, _, rfl, ⟨h1, ?_, ?_⟩, Int.emod_nonneg _ (by decide), by omega⟩
    · show 0 ≤ IntKind.wrap .i64 (c.2.1 + 1)
      rw [wr (by omega) (by omega)]; omega
    · show IntKind.wrap .i64 (c.2.1 + 1) ≤ _
      rw [wr (by omega) (by omega)]
      show c.2.1 + 1 ≤ (c.1.length : Int)
      omega
  · rw [decide_eq_false h, cond_false, Option.bind_some]
    exact ⟨_, _, rfl, ⟨h1, h2, h3⟩, Int.emod_nonneg _ (by decide), by omega⟩
theorem h_sl01Below (c : Cur) (n : Int) (hc : curOk c) (hn : n ≤ 1000000) : ∃ r c', g_sl01Below (c, n) = some (r, c') ∧ curOk c' ∧ 0 ≤ r ∧ (0 < n → r < n) ∧ (n ≤ 0 → r = 0) := by
  have e : g_sl01Below (c, n) = f_sl01Below BIG (c, n) := rfl
  rw [e, e_sl01Below]
  by_cases h0 : n ≤ 0
  · rw [decide_eq_true h0]; exact ⟨0, c, rfl, hc, by omega, by omega, fun _ => rfl⟩
  · rw [decide_eq_false h0, cond_false]
    obtain ⟨r1, c1, k1, o1, a1, b1⟩ := h_sl01Byte c hc
    by_cases h1 : n ≤ 256
    · rw [decide_eq_true h1, cond_true, k1, Option.bind_some, decide_eq_false (by omega), cond_false]
      refine ⟨_, _, rfl, o1, Int.tmod_nonneg _ a1, fun _ => ?_, by omega⟩
      show Int.tmod r1 n < n
      exact Int.tmod_lt_of_pos _ (by omega)
    · rw [decide_eq_false h1, cond_false, k1, Option.bind_some]
      obtain ⟨r2, c2, k2, o2, a2, b2⟩ := h_sl01Byte c1 o1
      obtain ⟨r3, c3, k3, o3, a3, b3⟩ := h_sl01Byte c2 o2
      obtain ⟨r4, c4, k4, o4, a4, b4⟩ := h_sl01Byte c3 o3
      simp only [k2, k3, k4, Option.bind_some]
      rw [decide_eq_false (by omega), cond_false]
      refine ⟨_, _, rfl, o4, ?_, fun _ => Int.tmod_lt_of_pos _ (by omega), by omega⟩
      refine Int.tmod_nonneg _ ?_
      rw [wr (n := r1 * 16777216) (by omega) (by omega), wr (n := r2 * 65536) (by omega) (by omega), wr (n := r3 * 256) (by omega) (by omega), wr (n := r1 * 16777216 + r2 * 65536) (by omega) (by omega), wr (n := r1 * 16777216 + r2 * 65536 + r3 * 256) (by omega) (by omega), wr (by omega) (by omega)]
      omega
theorem h_sl05Edge (c : Cur) (n : Int) (hc : curOk c) (hn : 2 ≤ n) (hn' : n ≤ 12) : ∃ e c', g_sl05Edge (c, n) = some (e, c') ∧ curOk c' ∧ edB n e = true := by
  have e : g_sl05Edge (c, n) = f_sl05Edge BIG (c, n) := rfl
  rw [e, e_sl05Edge]
  obtain ⟨r0, c0, k0, o0, a0, b0, _⟩ := h_sl01Below c n hc (by omega)
  obtain ⟨r1, c1, k1, o1, a1, b1, _⟩ := h_sl01Below c0 n o0 (by omega)
  have b0 := b0 (by omega)
  have b1 := b1 (by omega)
  simp only [k0, k1, Option.bind_some]
  have key : ∀ x2 : Int, 0 ≤ x2 → x2 < n → x2 ≠ r0 → ∃ e c', (bif decide (x2 < r0) then some ((x2, r0), c1) else some ((r0, x2), c1)) = some (e, c') ∧ curOk c' ∧ edB n e = true := by
    intro x2 p q hne
    by_cases h : x2 < r0
    · rw [decide_eq_true h]
      refine ⟨_, _, rfl, o1, ?_⟩
      simp only [edB, Bool.and_eq_true, inB_t, decide_eq_true_eq]
      omega
    · rw [decide_eq_false h]
      refine ⟨_, _, rfl, o1, ?_⟩
      simp only [edB, Bool.and_eq_true, inB_t, decide_eq_true_eq]
      omega
  by_cases h : r0 = r1
  · rw [decide_eq_true h, cond_true, decide_eq_false (by omega), cond_false, Option.bind_some, wr (by omega) (by omega)]
    have hm : Int.tmod (r0 + 1) n = if r0 + 1 = n then 0 else r0 + 1 := by
      rw [Int.tmod_eq_emod_of_nonneg (by omega)]
      split
      · rename_i h; rw [h]; exact Int.emod_self
      · exact Int.emod_eq_of_lt (by omega) (by omega)
    rw [hm]
    split
    · exact key 0 (by omega) (by omega) (by omega)
    · exact key _ (by omega) (by omega) (by omega)
  · rw [decide_eq_false h, cond_false, Option.bind_some]
    exact key r1 a1 b1 (fun hh => h hh.symm)
def GrOk (n : Int) (es : List Ed) : Prop := 2 ≤ n ∧ n ≤ 12 ∧ Srt es ∧ (∀ e, e ∈ es → edB n e = true)
theorem eOk_of {n : Int} {es : List Ed} (h : GrOk n es) (hl : es.length ≤ 66) : eOk n es = true := by
  unfold eOk
  rw [if_pos]
  · rw [decide_eq_true_eq]; omega
  · intro i hi
    have hy := List.getElem?_eq_getElem hi
    cases i with
    | zero => rw [eP_0 hy]; exact h.2.2.2 _ (List.getElem_mem _)
    | succ j =>
      have hj := List.getElem?_eq_getElem (show j < es.length by omega)
      rw [eP_s hy hj, h.2.2.2 _ (List.getElem_mem _), Bool.true_and]
      exact List.pairwise_iff_getElem.1 h.2.2.1 j (j + 1) (by omega) (by omega) (by omega)
theorem h_sHasEdge (n : Int) (es : List Ed) (e : Ed) (hl : es.length ≤ maxLen) : g_sHasEdge ((n, es), e) = some (decide (e ∈ es), ()) := by
  show f_sHasEdge BIG _ = _
  rw [e_sHasEdge, h_sl05Has _ _ hl]; rfl
theorem h_sl01New (a : List Int) (ha : a.length ≤ 1048576) : ∃ c, g_sl01New a = some (c, ()) ∧ curOk c := by
  have hm : maxLen = 9223372036854775807 := by decide
  have e : g_sl01New a = f_sl01New BIG a := rfl
  rw [e, e_sl01New]
  have := loop_rel (F := fun (self1 : Int × Int → Option (Int)) (x0 : Int × Int) =>
    Option.bind (bif decide (x0.2 < (a.length : Int)) then
      some (decide (x0.2 < (4000 : Int)))
     else some false : Option (Bool)) fun x2 =>
    bif x2 then
     bnd a.length x0.2 fun n3 =>
     Option.bind a[n3]? fun y4 =>
     self1 (bits .and .i64 (IntKind.wrap .i64 ((IntKind.wrap .i64 ((IntKind.wrap .i64 (x0.1 * (131 : Int))) + (IntKind.wrap .i64 (y4)))) + (7 : Int))) (1073741823 : Int), IntKind.wrap .i64 (x0.2 + (1 : Int)))
    else some x0.1) (fun x => ∃ i : Nat, x.2 = i ∧ i ≤ a.length) (fun x => a.length - x.2.toNat) (fun _ _ => True) (fun self x ⟨i, h1, h2⟩ hs => ?_) (n := BIG) (x := (IntKind.wrap .i64 ((13501 : Int) + (a.length : Int)), 0)) (by simp [BIG]; omega) ⟨0, rfl, by omega⟩
  · obtain ⟨b, hb, _⟩ := this
    rw [hb]
    exact ⟨_, rfl, ha, Int.le_refl _, by simp⟩
  · obtain ⟨z, j⟩ := x
    simp only at h1
    subst h1
    by_cases h : i < a.length
    · by_cases h' : (i : Int) < 4000
      · simp only [show ((i : Int) < (a.length : Int)) from by omega, h', decide_true, cond_true, Option.bind_some]
        rw [bnd_nat h, List.getElem?_eq_getElem h, Option.bind_some, wr1 (by omega)]
        exact hs _ ⟨i + 1, rfl, h⟩ (by simp; omega)
      · simp only [show ((i : Int) < (a.length : Int)) from by omega, h', decide_true, decide_false, cond_true, cond_false, Option.bind_some]
        exact ⟨_, rfl, trivial⟩
    · simp only [show ¬ ((i : Int) < (a.length : Int)) from by omega, decide_false, cond_false, Option.bind_some]
      exact ⟨_, rfl, trivial⟩
theorem h_lsameEdges (a b : List Ed) (ha : a.length ≤ maxLen) : g_lsameEdges (a, b) = some (decide (a = b), ()) := by
  show f_lsameEdges BIG _ = _
  rw [e_lsameEdges]
  by_cases hl : a.length = b.length
  · rw [decide_eq_true (by omega), Bool.not_true, cond_false, eqLoop a b ha hl false]
    · by_cases h : a = b <;> simp [h]
    · intro self i x y hx hy
      have hi := (List.getElem?_eq_some_iff.1 hx).1
      simp only [show ((i : Int) < (a.length : Int)) from by omega, decide_true, cond_true]
      rw [bnd_nat hi, hx, Option.bind_some, bnd_nat (by omega), hy, Option.bind_some, wr1 (by omega)]
      obtain ⟨x1, x2⟩ := x
      obtain ⟨y1, y2⟩ := y
      by_cases h1 : x1 = y1 <;> by_cases h2 : x2 = y2 <;> simp [h1, h2]
    · intro self
      simp
  · rw [decide_eq_false (by omega), Bool.not_false, cond_true, decide_eq_false (fun h => hl (by rw [h]))]
theorem GrOk.ins {n : Int} {es : List Ed} {e : Ed} (h : GrOk n es) (he : edB n e = true) : GrOk n (ins es e) := ⟨h.1, h.2.1, ins_srt h.2.2.1, fun x hx => by
  rcases ins_mem.1 hx with rfl | hx
  · exact he
  · exact h.2.2.2 x hx⟩
theorem h_lbig (a : List Int) : g_lbig a = some (decide ((1048576 : Int) < (a.length : Int)), ()) := e_lbig BIG a
theorem h_sl01Once (c : Cur) (n : Int) (hc : curOk c) (hn : n ≤ 1000000) : ∃ b c', g_sl01Once (c, n) = some (b, c') ∧ curOk c' := by
  have e : g_sl01Once (c, n) = f_sl01Once BIG (c, n) := rfl
  obtain ⟨r, c', k, o, _⟩ := h_sl01Below c n hc hn
  rw [e, e_sl01Once, k]
  exact ⟨_, _, rfl, o⟩
theorem h_sl01PickInt (c : Cur) (l : List Int) (hc : curOk c) (h0 : 0 < l.length) (hl : l.length ≤ 1000000) : ∃ b c', g_sl01PickInt (c, l) = some (b, c') ∧ curOk c' := by
  have e : g_sl01PickInt (c, l) = f_sl01PickInt BIG (c, l) := rfl
  obtain ⟨r, c', k, o, a, b, _⟩ := h_sl01Below c l.length hc (by omega)
  have b := b (by omega)
  rw [e, e_sl01PickInt, k, Option.bind_some, bnd_ok a b, List.getElem?_eq_getElem (by omega)]
  exact ⟨_, _, rfl, o⟩
theorem h_sl05AnyEdge (c : Cur) (hc : curOk c) : ∃ e c', g_sl05AnyEdge (c, (0, [])) = some (e, c') ∧ curOk c' := by
  have e : g_sl05AnyEdge (c, (0, [])) = f_sl05AnyEdge BIG (c, (0, [])) := rfl
  rw [e, e_sl05AnyEdge]
  simp only [List.length_nil, Int.natCast_zero, Int.lt_irrefl, decide_false, cond_false, Option.bind_some]
  obtain ⟨b, c1, k1, o1⟩ := h_sl01Once c 12 hc (by omega)
  rw [k1, Option.bind_some]
  cases b with
  | true =>
    obtain ⟨r2, c2, k2, o2⟩ := h_sl01PickInt c1 [(-1 : Int), (0 : Int), (5 : Int), (11 : Int), (12 : Int)] o1 (by decide) (by decide)
    obtain ⟨r3, c3, k3, o3⟩ := h_sl01PickInt c2 [(0 : Int), (5 : Int), (11 : Int), (12 : Int)] o2 (by decide) (by decide)
    simp only [cond_true, k2, k3, Option.bind_some]
    exact ⟨_, _, rfl, o3⟩
  | false =>
    obtain ⟨e, c2, k2, o2, _⟩ := h_sl05Edge c1 6 o1 (by omega) (by omega)
    simp only [cond_false, k2, Option.bind_some]
    exact ⟨_, _, rfl, o2⟩
theorem h_sl09N (c : Cur) (hc : curOk c) : ∃ n c', g_sl09N c = some (n, c') ∧ curOk c' ∧ 2 ≤ n ∧ n ≤ 12 := by
  have e : g_sl09N c = f_sl09N BIG c := rfl
  obtain ⟨r, c', k, o, a, b, _⟩ := h_sl01Below c 11 hc (by omega)
  have b := b (by omega)
  rw [e, e_sl09N, k, Option.bind_some, wr (by omega) (by omega)]
  exact ⟨_, _, rfl, o, by omega, by omega⟩
/-- A loop that counts up to a number and keeps an account. -/
theorem rangeLoop {S B : Type} (n : Nat) (hl : n < 18446744073709551616) {F : (S × Int → Option B) → S × Int → Option B} (I : Nat → S → Prop) (st : Nat → S → S) (R : S → B) {s0 : S} (h0 : I 0 s0)
    (hI : ∀ i s, i < n → I i s → I (i + 1) (st i s)) (hF : ∀ self s (i : Nat), i < n → I i s → F self (s, (i : Int)) = self (st i s, ((i + 1 : Nat) : Int)))
    (hE : ∀ self s, I n s → F self (s, (n : Int)) = some (R s)) : loopT BIG F (s0, 0) = some (R ((List.range n).foldl (fun s i => st i s) s0)) := by
  have hr : ∀ {i y : Nat}, (List.range n)[i]? = some y → i < n ∧ y = i := by
    intro i y h
    have hi := (List.getElem?_eq_some_iff.1 h).1
    rw [List.length_range] at hi
    rw [List.getElem?_range hi] at h
    cases h
    exact ⟨hi, rfl⟩
  refine foldLoop (List.range n) (by rw [List.length_range]; exact hl) I (fun s i => st i s) R h0 (fun i s y hy hi => ?_) (fun self s i y hy hi => ?_) (fun self s hs => ?_)
  · obtain ⟨h1, rfl⟩ := hr hy; exact hI _ _ h1 hi
  · obtain ⟨h1, rfl⟩ := hr hy; exact hF _ _ _ h1 hi
  · rw [List.length_range] at hs ⊢; exact hE _ _ hs
theorem fold_snoc {α : Type} (f : Nat → α) (n : Nat) (s : List α) : (List.range n).foldl (fun s i => s ++ [f i]) s = s ++ (List.range n).map f := by
  induction n with
  | zero => simp
  | succ n ih => rw [List.range_succ, List.foldl_append, ih]; simp
theorem lab0Loop (n : Nat) (hn : n ≤ 1000000) {F : (List Int × Int → Option (List Int)) → List Int × Int → Option (List Int)}
    (hF : ∀ self out (i : Nat), i < n → out.length = i → F self (out, (i : Int)) = self (out ++ [(i : Int)], ((i + 1 : Nat) : Int)))
    (hE : ∀ self out, F self (out, (n : Int)) = some out) : loopT BIG F ([], 0) = some (lab0 n) := by
  rw [rangeLoop n (by omega) (fun i (s : List Int) => s.length = i) (fun i s => s ++ [(i : Int)]) id rfl (fun i s _ h => by simp [h]) (fun self s i hi h => hF self s i hi h) (fun self s _ => hE self s), fold_snoc]
  rfl
theorem h_ifirst (n : Nat) (hn : n ≤ 1000000) : g_ifirst (n : Int) = some (lab0 n, ()) := by
  have hm : maxLen = 9223372036854775807 := by decide
  show f_ifirst BIG _ = _
  rw [e_ifirst, lab0Loop n hn]
  · rfl
  · intro self out i hi hl
    simp only [show ((i : Int) < (n : Int)) from by omega, decide_true, cond_true]
    rw [decide_eq_true (by simp; omega), cond_true, wr1 (by omega)]
  · intro self out
    simp
theorem lrnds_fold (E : List (Int × Int)) (n : Nat) : ∀ l : List Int, (List.range n).foldl (fun s _ => lrnd E s) l = lrnds E n l := by
  have : ∀ (m : Nat) (l : List Int), lrnds E (m + 1) l = lrnd E (lrnds E m l) := by
    intro m
    induction m with
    | zero => intro l; rfl
    | succ m ih => intro l; show lrnds E (m + 1) (lrnd E l) = _; rw [ih]; rfl
  induction n with
  | zero => intro l; rfl
  | succ n ih => intro l; rw [List.range_succ, List.foldl_append, ih, this]; rfl
theorem h_sl05Labels (n : Nat) (E : List (Int × Int)) (hn : n ≤ 12) (hE : EIn n E) (hl : E.length ≤ 4611686018427387904) : g_sl05Labels ((n : Int), E) = some (labs n E, ()) := by
  have hm : maxLen = 9223372036854775807 := by decide
  show f_sl05Labels BIG _ = _
  rw [e_sl05Labels, lab0Loop n (by omega)]
  · rw [Option.bind_some, rangeLoop n (by omega) (fun i (s : List Int) => s.length = n) (fun _ s => lrnd E s) id (lab0_len n) (fun i s _ h => by rw [lrnd_len]; exact h)]
    · rw [lrnds_fold, lrnds_labs hE]; rfl
    · intro self s i hi hs
      simp only [show ((i : Int) < (n : Int)) from by omega, decide_true, cond_true]
      rw [foldLoop E (by omega) (fun _ (s : List Int) => s.length = n) rlE id hs (fun i s y _ h => by rw [rlE_len]; exact h)]
      · rw [Option.bind_some, wr1 (by omega)]; rfl
      · intro self s i y hy hs
        have hi := (List.getElem?_eq_some_iff.1 hy).1
        obtain ⟨h1, h2, h3, h4⟩ := hE y (List.mem_of_getElem? hy)
        have i1 : y.1.toNat < s.length := by omega
        have i2 : y.2.toNat < s.length := by omega
        simp only [show ((i : Int) < (E.length : Int)) from by omega, decide_true, cond_true]
        rw [wr1 (by omega), bnd_nat hi, hy, Option.bind_some, bnd_ok h1 (by omega), getD_at i1, Option.bind_some, bnd_nat hi, hy, Option.bind_some, bnd_ok h3 (by omega), getD_at i2, Option.bind_some]
        unfold rlE
        simp only
        by_cases c1 : s.getD y.1.toNat 0 < s.getD y.2.toNat 0
        · rw [decide_eq_true c1, cond_true, bnd_nat hi, hy, Option.bind_some, bnd_ok h3 (by omega), getD_at i2, Option.bind_some, Option.bind_some, decide_eq_false (by omega), cond_false, if_pos c1, if_neg (by omega)]
          rfl
        · rw [decide_eq_false c1, cond_false, Option.bind_some, if_neg c1]
          by_cases c2 : s.getD y.2.toNat 0 < s.getD y.1.toNat 0
          · rw [decide_eq_true c2, cond_true, bnd_nat hi, hy, Option.bind_some, bnd_ok h1 (by omega), getD_at i1, Option.bind_some, if_pos c2]
            rfl
          · rw [decide_eq_false c2, cond_false, if_neg c2]
            rfl
      · intro self s _
        simp
    · intro self s _
      simp
  · intro self out i hi hl
    simp only [show ((i : Int) < (n : Int)) from by omega, decide_true, cond_true]
    rw [decide_eq_true (by simp; omega), cond_true, wr1 (by omega)]
  · intro self out
    simp
def grB (n : Int) (es : List Ed) : Bool := inB n 1 12 && eOk n es
theorem w_sGraphOk (n : Int) (es : List Ed) (hl : es.length ≤ 1048576) : g_sGraphOk (n, es) = some (grB n es, ()) := by
  show f_sGraphOk BIG _ = _
  rw [e_sGraphOk, h_sl01In', h_sl05Edges n es hl]
  unfold grB
  cases inB n 1 12 <;> rfl
theorem eOk_srt {n : Int} {es : List Ed} (h : eOk n es = true) : (∀ e, e ∈ es → edB n e = true) ∧ Srt es ∧ es.length ≤ 66 := by
  have hl := eOk_len h
  unfold eOk at h
  split at h
  case isFalse => cases h
  case isTrue hp =>
  have hc : ∀ i (h : i + 1 < es.length), edB n es[i + 1] = true ∧ lsB es[i] es[i + 1] = true := by
    intro i hi
    have := hp (i + 1) hi
    rw [eP_s (List.getElem?_eq_getElem hi) (List.getElem?_eq_getElem (by omega)), Bool.and_eq_true] at this
    exact this
  have h0 : ∀ i (h : i < es.length), edB n es[i] = true := by
    intro i hi
    cases i with
    | zero => have := hp 0 hi; rwa [eP_0 (List.getElem?_eq_getElem hi)] at this
    | succ i => exact (hc i hi).1
  refine ⟨fun e he => ?_, List.pairwise_iff_getElem.2 fun i j hi hj hij => ?_, hl⟩
  · obtain ⟨i, hi, rfl⟩ := List.getElem_of_mem he
    exact h0 i hi
  · have : ∀ d (h : i + 1 + d < es.length), lsB es[i] es[i + 1 + d] = true := by
      intro d
      induction d with
      | zero => intro h; exact (hc i h).2
      | succ d ih => intro h; exact lsB_trans (ih (by omega)) (hc (i + 1 + d) h).2
    have := this (j - (i + 1)) (by omega)
    simpa [show i + 1 + (j - (i + 1)) = j from by omega] using this
theorem edB_in {n : Nat} {e : Ed} (h : edB (n : Int) e = true) : 0 ≤ e.1 ∧ e.1 < n ∧ 0 ≤ e.2 ∧ e.2 < n ∧ e.1 < e.2 := by
  simp only [edB, Bool.and_eq_true, inB_t, decide_eq_true_eq] at h
  omega
theorem eOk_in {n : Nat} {es : List Ed} (h : eOk (n : Int) es = true) : EIn n es := fun e he => by
  have := edB_in ((eOk_srt h).1 e he)
  exact ⟨this.1, this.2.1, this.2.2.1, this.2.2.2.1⟩
/-- A loop that changes each of a row in its place. -/
theorem mapLoop {α : Type} (a : List α) (f : α → α) (hl : a.length < 18446744073709551616) {F : (List α × Int → Option (List α)) → List α × Int → Option (List α)}
    (hF : ∀ self out (i : Nat) y, out.length = a.length → out[i]? = some y → a[i]? = some y → F self (out, (i : Int)) = self (out.set i (f y), ((i + 1 : Nat) : Int)))
    (hE : ∀ self out, out.length = a.length → F self (out, (a.length : Int)) = some out) : loopT BIG F (a, 0) = some (a.map f) := by
  have := loop_eq (F := F) (fun x => ∃ i : Nat, x.2 = i ∧ i ≤ a.length ∧ x.1 = (a.map f).take i ++ a.drop i) (fun x => a.length - x.2.toNat) (fun _ => a.map f) (fun self x ⟨i, h1, h2, h3⟩ hs => ?_) (n := BIG) (x := (a, 0)) (by simp; exact hl) ⟨0, rfl, by simp, by simp⟩
  · exact this
  · obtain ⟨out, j⟩ := x
    simp only at h1 h3
    subst h1
    have hlen : out.length = a.length := by rw [h3]; simp; omega
    by_cases hi : i < a.length
    · have hy := List.getElem?_eq_getElem hi
      have ho : out[i]? = some a[i] := by
        rw [h3, List.getElem?_append_right (by simp; omega)]
        simp [Nat.min_eq_left (show i ≤ a.length from by omega)]
      rw [hF self out i a[i] hlen ho hy]
      have e := set_take_drop (a := a) (t := a.map f) (i := i) (z := f a[i]) (by simp) hi (by simp [hi])
      rw [← h3] at e
      exact hs _ ⟨i + 1, rfl, hi, e⟩ (by simp; omega)
    · have : i = a.length := by omega
      subst this
      rw [hE self out hlen, h3]
      simp [List.take_of_length_le]
theorem set_self {α : Type} {l : List α} {i : Nat} {y : α} (h : l[i]? = some y) : l.set i y = l := by
  apply List.ext_getElem?
  intro j
  rw [List.getElem?_set]
  split
  · subst j
    have := (List.getElem?_eq_some_iff.1 h).1
    simp [this, h.symm]
  · rfl
theorem h_iunion (l : List Int) (a b : Int) (ha : 0 ≤ a) (ha' : a < l.length) (hb : 0 ≤ b) (hb' : b < l.length) (hl : l.length ≤ 1048576) :
    g_iunion (l, a, b) = some (!decide (l.getD a.toNat 0 = l.getD b.toNat 0), unE l (a, b)) := by
  have hm : maxLen = 9223372036854775807 := by decide
  show f_iunion BIG _ = _
  rw [e_iunion, bnd_ok ha ha', getD_at (by omega), Option.bind_some, bnd_ok hb hb', getD_at (by omega), Option.bind_some]
  unfold unE
  simp only
  generalize l.getD a.toNat 0 = x
  generalize l.getD b.toNat 0 = y
  by_cases h : x = y
  · subst h
    rw [decide_eq_true rfl, cond_true, unL_same]; rfl
  · rw [decide_eq_false h, cond_false, mapLoop l (fun z => if z = (if y > x then y else x) then (if y < x then y else x) else z) (by omega)]
    · rfl
    · intro self out i z hlo ho hz
      have hi := (List.getElem?_eq_some_iff.1 hz).1
      simp only [show ((i : Int) < (l.length : Int)) from by omega, decide_true, cond_true]
      rw [bnd_nat (by omega), ho, Option.bind_some, wr1 (by omega)]
      by_cases hc : z = (if y > x then y else x)
      · rw [decide_eq_true hc, cond_true, bnd_nat (by omega), ho, Option.bind_some, if_pos hc]; rfl
      · rw [decide_eq_false hc, cond_false, if_neg hc, set_self ho]; rfl
    · intro self out hlo
      simp
theorem h_sLabels (n : Nat) (es : List Ed) (hl : es.length ≤ 1048576) : g_sLabels ((n : Int), es) = some (if grB n es then labs n es else [], ()) := by
  show f_sLabels BIG _ = _
  rw [e_sLabels, w_sGraphOk _ _ hl, Option.bind_some]
  cases hg : grB n es with
  | false => rfl
  | true =>
    simp only [grB, Bool.and_eq_true, inB_t] at hg
    simp only [Bool.not_true, cond_false]
    rw [h_sl05Labels n es (by omega) (eOk_in hg.2) (by omega)]; rfl
/-- A loop through a row that keeps an account, in whatever form. -/
theorem foldG {α S X B : Type} (a : List α) (hl : a.length < 18446744073709551616) {F : (X → Option B) → X → Option B} (mk : S → Int → X) (I : Nat → S → Prop) (st : S → α → S) (R : S → B) {s0 : S} (h0 : I 0 s0)
    (hI : ∀ i s y, a[i]? = some y → I i s → I (i + 1) (st s y)) (hF : ∀ self s (i : Nat) y, a[i]? = some y → I i s → F self (mk s (i : Int)) = self (mk (st s y) ((i + 1 : Nat) : Int)))
    (hE : ∀ self s, I a.length s → F self (mk s (a.length : Int)) = some (R s)) : loopT BIG F (mk s0 0) = some (R (a.foldl st s0)) := by
  have key : ∀ (k n i : Nat) (s : S), a.length - i ≤ k → k < n → i ≤ a.length → I i s → it F n (mk s (i : Int)) = some (R ((a.drop i).foldl st s)) := by
    intro k
    induction k with
    | zero =>
      intro n i s hk hn hi hs
      obtain ⟨m, rfl⟩ : ∃ m, n = m + 1 := ⟨n - 1, by omega⟩
      have : i = a.length := by omega
      subst this
      show F (it F m) _ = _
      rw [hE _ _ hs]; simp
    | succ k ih =>
      intro n i s hk hn hi hs
      obtain ⟨m, rfl⟩ : ∃ m, n = m + 1 := ⟨n - 1, by omega⟩
      show F (it F m) _ = _
      by_cases hi' : i < a.length
      · have hy := List.getElem?_eq_getElem hi'
        rw [hF _ _ _ _ hy hs, ih m (i + 1) _ (by omega) (by omega) hi' (hI _ _ _ hy hs), List.drop_eq_getElem_cons hi', List.foldl_cons]
      · have : i = a.length := by omega
        subst this
        rw [hE _ _ hs]; simp
  have := key a.length BIG 0 s0 (by omega) (by simpa [BIG] using hl) (by omega) h0
  show it F BIG (mk s0 0) = _
  simpa using this
def BA (l : List UInt8) : ByteArray := ⟨l.toArray⟩
theorem BA_size (l : List UInt8) : (BA l).size = l.length := by
  have h : l.toArray.size = l.length := by simp
  exact h
theorem BA_app (a b : List UInt8) : BA a ++ BA b = BA (a ++ b) := by
  apply ByteArray.ext
  simp [BA, ByteArray.data_append]
theorem BA_get (l : List UInt8) (i : Nat) : (BA l)[i]? = l[i]? := by
  by_cases h : i < l.length
  · rw [getElem?_pos (BA l) i h, List.getElem?_eq_getElem h]
    rfl
  · rw [getElem?_neg (BA l) i h, List.getElem?_eq_none (by omega)]
theorem BA_ext (l : List UInt8) (a b : Nat) : (BA l).extract a b = BA ((l.drop a).take (b - a)) := by
  apply ByteArray.ext
  simp [BA, ByteArray.data_extract]
theorem BA_loop (l : List UInt8) : ∀ (k i : Nat) (r : List UInt8), l.length - i ≤ k → ByteArray.toList.loop (BA l) i r = r.reverse ++ l.drop i := by
  intro k
  induction k with
  | zero =>
    intro i r h
    unfold ByteArray.toList.loop
    rw [if_neg (by rw [BA_size]; omega), List.drop_eq_nil_iff.2 (by omega), List.append_nil]
  | succ k ih =>
    intro i r h
    unfold ByteArray.toList.loop
    by_cases hi : i < l.length
    · rw [if_pos (by rw [BA_size]; exact hi), ih (i + 1) _ (by omega), List.drop_eq_getElem_cons hi]
      have : (BA l).get! i = l[i] := by
        show (BA l).data[i]! = _
        simp [BA, hi]
      rw [this]; simp
    · rw [if_neg (by rw [BA_size]; exact hi), List.drop_eq_nil_iff.2 (by omega), List.append_nil]
theorem BA_toList (l : List UInt8) : (BA l).toList = l := by
  unfold ByteArray.toList
  rw [BA_loop l l.length 0 [] (by omega)]; simp
theorem bytesStr_BA (ns : List Int) : bytesStr ns = BA (ns.map fun n => UInt8.ofNat n.toNat) := by
  have : ∀ (ns : List Int) (l : List UInt8), ns.foldl (fun r n => r.push (UInt8.ofNat n.toNat)) (BA l) = BA (l ++ ns.map fun n => UInt8.ofNat n.toNat) := by
    intro ns
    induction ns with
    | nil => intro l; simp
    | cons n ns ih =>
      intro l
      rw [List.foldl_cons]
      have : (BA l).push (UInt8.ofNat n.toNat) = BA (l ++ [UInt8.ofNat n.toNat]) := by
        apply ByteArray.ext
        simp [BA, ByteArray.push]
      rw [this, ih]; simp
  have := this ns []
  rw [List.nil_append] at this
  exact this
/-- A byte of a number. -/
def by8 (n : Int) : UInt8 := UInt8.ofNat (n % 256).toNat
theorem wrap_u8 (n : Int) : IntKind.wrap .u8 n = n % 256 := by
  simp [IntKind.wrap, IntKind.signed, IntKind.bits]
theorem bytes_by (ns : List Int) : bytesStr (ns.map (IntKind.wrap .u8)) = BA (ns.map by8) := by
  rw [bytesStr_BA, List.map_map]
  rfl
theorem bytes_nn {ns : List Int} (h : ∀ z, z ∈ ns → 0 ≤ z) : bytesStr ns = BA (ns.map by8) := by
  rw [bytesStr_BA]
  congr 1
  apply List.map_congr_left
  intro n hn
  have := h n hn
  unfold by8
  apply UInt8.toNat_inj.1
  simp only [UInt8.toNat_ofNat']
  omega
theorem by8_nat (n : Nat) : by8 (n : Int) = UInt8.ofNat n := by
  unfold by8
  have : ((n : Int) % 256).toNat = n % 256 := by omega
  rw [this]
  apply UInt8.toNat_inj.1
  simp [UInt8.toNat_ofNat]
theorem by8_toNat {n : Nat} (h : n < 256) : (by8 (n : Int)).toNat = n := by
  rw [by8_nat]; simp [UInt8.toNat_ofNat]; omega
theorem by8_of (b : UInt8) : by8 (b.toNat : Int) = b := by
  rw [by8_nat]; simp
def vF : Nat → Nat → List UInt8
  | 0, v => [by8 (v : Int)]
  | k + 1, v => if v ≤ 127 then [by8 (v : Int)] else by8 ((v % 128 + 128 : Nat) : Int) :: vF k (v / 128)
def vB (v : Nat) : List UInt8 := vF 9 v
theorem vF_more : ∀ (k v : Nat), v < 128 ^ (k + 1) → vF (k + 1) v = vF k v
  | 0, v, h => by
    have : v ≤ 127 := by omega
    simp [vF, this]
  | k + 1, v, h => by
    unfold vF
    split
    · rfl
    · congr 1
      apply vF_more k
      rw [Nat.div_lt_iff_lt_mul (by omega)]
      rw [Nat.pow_succ] at h
      exact h
theorem vF_len : ∀ (k v : Nat), (vF k v).length ≤ k + 1
  | 0, v => by simp [vF]
  | k + 1, v => by
    unfold vF
    split
    · simp
    · have := vF_len k (v / 128)
      simp; omega
theorem vB_small {v : Nat} (h : v < 34359738368) : vB v = vF 4 v := by
  unfold vB
  rw [vF_more 8 v (by omega), vF_more 7 v (by omega), vF_more 6 v (by omega), vF_more 5 v (by omega), vF_more 4 v (by omega)]
theorem vB_len {v : Nat} (h : v < 34359738368) : (vB v).length ≤ 5 := by rw [vB_small h]; exact vF_len 4 v
theorem vB_lo {v : Nat} (h : v ≤ 127) : vB v = [by8 (v : Int)] := by simp [vB, vF, h]
theorem vB_hi {v : Nat} (h : 127 < v) (h' : v < 34359738368) : vB v = by8 ((v % 128 + 128 : Nat) : Int) :: vB (v / 128) := by
  rw [vB_small (v := v / 128) (by omega), vB_small h']
  show (if v ≤ 127 then _ else _ :: vF 3 (v / 128)) = _
  rw [if_neg (by omega), ← vF_more 3 (v / 128) (by omega)]
theorem wrapi {n : Nat} (h : n ≤ 9223372036854775807) : IntKind.wrap .i64 (n : Int) = n := wr (by omega) (by omega)
theorem vLoop (v : Nat) (hv : v < 34359738368) {F : (List Int × Int → Option (List Int × Int)) → List Int × Int → Option (List Int × Int)}
    (hF : ∀ self (out : List Int) (x : Nat), x < 34359738368 → out.length ≤ 100 → F self (out, (x : Int)) = if 127 < x then self (out ++ [((x % 128 + 128 : Nat) : Int)], ((x / 128 : Nat) : Int)) else some (out, (x : Int))) :
    ∃ (out : List Int) (x : Nat), loopT BIG F ([], (v : Int)) = some (out, (x : Int)) ∧ out.length ≤ 10 ∧ x ≤ 127 ∧ (out ++ [(x : Int)]).map by8 = vB v ∧ ∀ z, z ∈ out → 0 ≤ z := by
  have key : ∀ (k n : Nat) (out : List Int) (x : Nat), x < 128 ^ (k + 1) → k ≤ 4 → k < n → out.length ≤ 10 - k → (∀ z, z ∈ out → 0 ≤ z) → ∃ (out' : List Int) (x' : Nat), it F n (out, (x : Int)) = some (out', (x' : Int)) ∧ out'.length ≤ 10 ∧ x' ≤ 127 ∧ (out' ++ [(x' : Int)]).map by8 = out.map by8 ++ vB x ∧ ∀ z, z ∈ out' → 0 ≤ z := by
    intro k
    induction k with
    | zero =>
      intro n out x hx hk4 hk ho hz
      obtain ⟨m, rfl⟩ : ∃ m, n = m + 1 := ⟨n - 1, by omega⟩
      refine ⟨out, x, ?_, by omega, by omega, ?_, hz⟩
      · show F (it F m) _ = _
        rw [hF _ _ _ (by omega) (by omega), if_neg (by omega)]
      · rw [vB_lo (by omega)]; simp
    | succ k ih =>
      intro n out x hx hk4 hk ho hz
      obtain ⟨m, rfl⟩ : ∃ m, n = m + 1 := ⟨n - 1, by omega⟩
      have hx5 : x < 34359738368 := Nat.lt_of_lt_of_le hx (Nat.pow_le_pow_right (by omega) (show k + 1 + 1 ≤ 5 by omega))
      by_cases h : 127 < x
      · have hx' : x / 128 < 128 ^ (k + 1) := by
          rw [Nat.div_lt_iff_lt_mul (by omega)]
          rw [Nat.pow_succ] at hx; exact hx
        obtain ⟨out', x', g1, g2, g3, g4, g5⟩ := ih m (out ++ [((x % 128 + 128 : Nat) : Int)]) (x / 128) hx' (by omega) (by omega) (by simp; omega) (fun z hm => by
          rcases List.mem_append.1 hm with hm | hm
          · exact hz z hm
          · rw [List.mem_singleton.1 hm]; omega)
        refine ⟨out', x', ?_, g2, g3, ?_, g5⟩
        · show F (it F m) _ = _
          rw [hF _ _ _ hx5 (by omega), if_pos h]
          exact g1
        · rw [g4, vB_hi h hx5]; simp
      · refine ⟨out, x, ?_, by omega, by omega, ?_, hz⟩
        · show F (it F m) _ = _
          rw [hF _ _ _ hx5 (by omega), if_neg h]
        · rw [vB_lo (by omega)]; simp
  obtain ⟨out, x, h1, h2, h3, h4, h5⟩ := key 4 BIG [] v hv (by omega) (by decide) (by simp) (fun z hz => by cases hz)
  exact ⟨out, x, h1, h2, h3, by simpa using h4, h5⟩
theorem vStep (x : Nat) (hx : x < 34359738368) : IntKind.wrap .u8 (IntKind.wrap .i64 (Int.tmod (x : Int) 128 + 128)) = ((x % 128 + 128 : Nat) : Int) ∧ IntKind.wrap .i64 (Int.tdiv (x : Int) 128) = ((x / 128 : Nat) : Int) := by
  rw [Int.tmod_eq_emod_of_nonneg (by omega), Int.tdiv_eq_ediv_of_nonneg (by omega)]
  constructor
  · rw [wr (by omega) (by omega), wrap_u8]; omega
  · rw [wr (by omega) (by omega)]; omega
theorem vStepF (self1 : List Int × Int → Option (List Int × Int)) (out : List Int) (x : Nat) (hx : x < 34359738368) (ho : out.length ≤ 100) :
    (bif decide ((127 : Int) < (x : Int)) then
     bif decide ((128 : Int) = 0) then
      none
     else bif decide (out.length + ([IntKind.wrap .u8 (IntKind.wrap .i64 ((Int.tmod (x : Int) (128 : Int)) + (128 : Int)))]).length ≤ 4294967296) then
      bif decide ((128 : Int) = 0) then
       none
      else self1 (out ++ ([IntKind.wrap .u8 (IntKind.wrap .i64 ((Int.tmod (x : Int) (128 : Int)) + (128 : Int)))]), IntKind.wrap .i64 (Int.tdiv (x : Int) (128 : Int)))
     else none
    else some (out, (x : Int))) = if 127 < x then self1 (out ++ [((x % 128 + 128 : Nat) : Int)], ((x / 128 : Nat) : Int)) else some (out, (x : Int)) := by
  obtain ⟨s1, s2⟩ := vStep x hx
  simp only [s1, s2]
  rw [decide_eq_true (show out.length + [((x % 128 + 128 : Nat) : Int)].length ≤ 4294967296 by simp; omega)]
  by_cases h : 127 < x
  · rw [decide_eq_true (by omega), if_pos h]; rfl
  · rw [decide_eq_false (by omega), if_neg h]; rfl
theorem vEnd {v x : Nat} {out : List Int} (h3 : x ≤ 127) (h4 : (out ++ [(x : Int)]).map by8 = vB v) (h5 : ∀ z, z ∈ out → 0 ≤ z) : bytesStr (out ++ [IntKind.wrap .u8 (x : Int)]) = BA (vB v) := by
  have : out ++ [IntKind.wrap .u8 (x : Int)] = out ++ [(x : Int)] := by rw [wrap_u8, Int.emod_eq_of_lt (by omega) (by omega)]
  rw [this, bytes_nn (fun z hm => by
    rcases List.mem_append.1 hm with hm | hm
    · exact h5 z hm
    · rw [List.mem_singleton.1 hm]; omega), h4]
theorem w_sl01Var (v : Nat) (hv : v < 34359738368) : g_sl01Var (v : Int) = some (BA (vB v), ()) := by
  show f_sl01Var BIG _ = _
  rw [e_sl01Var]
  obtain ⟨out, x, h1, h2, h3, h4, h5⟩ := vLoop v hv (F := fun self1 x0 =>
    bif decide ((127 : Int) < x0.2) then
     bif decide ((128 : Int) = 0) then
      none
     else bif decide (x0.1.length + ([IntKind.wrap .u8 (IntKind.wrap .i64 ((Int.tmod x0.2 (128 : Int)) + (128 : Int)))]).length ≤ 4294967296) then
      bif decide ((128 : Int) = 0) then
       none
      else self1 (x0.1 ++ ([IntKind.wrap .u8 (IntKind.wrap .i64 ((Int.tmod x0.2 (128 : Int)) + (128 : Int)))]), IntKind.wrap .i64 (Int.tdiv x0.2 (128 : Int)))
     else none
    else some (x0.1, x0.2)) (fun self out x hx ho => vStepF self out x hx ho)
  rw [h1]
  simp only [Option.bind_some]
  rw [decide_eq_true (by simp; omega), cond_true, vEnd h3 h4 h5]
theorem w_iVarText (v : Int) : g_iVarText v = some (if inB v 0 1000000000 then (BA (vB v.toNat), true) else (BA [], false), ()) := by
  show f_iVarText BIG _ = _
  rw [e_iVarText, h_iin', Option.bind_some]
  cases h : inB v 0 1000000000 with
  | false => rfl
  | true =>
    rw [inB_t] at h
    obtain ⟨v, rfl⟩ : ∃ w : Nat, v = w := ⟨v.toNat, by omega⟩
    obtain ⟨out, x, h1, h2, h3, h4, h5⟩ := vLoop v (by omega) (F := fun self1 x0 =>
      bif decide ((127 : Int) < x0.2) then
       bif decide ((128 : Int) = 0) then
        none
       else bif decide (x0.1.length + ([IntKind.wrap .u8 (IntKind.wrap .i64 ((Int.tmod x0.2 (128 : Int)) + (128 : Int)))]).length ≤ 4294967296) then
        bif decide ((128 : Int) = 0) then
         none
        else self1 (x0.1 ++ ([IntKind.wrap .u8 (IntKind.wrap .i64 ((Int.tmod x0.2 (128 : Int)) + (128 : Int)))]), IntKind.wrap .i64 (Int.tdiv x0.2 (128 : Int)))
       else none
      else some (x0.1, x0.2)) (fun self out x hx ho => vStepF self out x hx ho)
    simp only [Bool.not_true, cond_false, if_true, Int.toNat_natCast]
    rw [h1]
    simp only [Option.bind_some]
    rw [decide_eq_true (by simp; omega), cond_true, vEnd h3 h4 h5]
theorem by_1 (x : Int) : bytesStr [IntKind.wrap .u8 x] = BA [by8 x] := bytes_by [x]
theorem by_2 (x y : Int) : bytesStr [IntKind.wrap .u8 x, IntKind.wrap .u8 y] = BA [by8 x, by8 y] := bytes_by [x, y]
theorem w_sl09Byte (v : Int) : g_sl09Byte v = some (BA [by8 v], ()) := by
  show f_sl09Byte BIG _ = _
  rw [e_sl09Byte, by_1]
def flT (b : Bool) : List UInt8 := [if b then 1 else 0]
theorem w_sl09Flag (b : Bool) : g_sl09Flag b = some (BA (flT b), ()) := by
  show f_sl09Flag BIG _ = _
  rw [e_sl09Flag]; cases b <;> rfl
def e2 (e : Ed) : List UInt8 := [by8 e.1, by8 e.2]
def eT (es : List Ed) : List UInt8 := vB es.length ++ es.flatMap e2
theorem flat2_len : ∀ es : List Ed, (es.flatMap e2).length = 2 * es.length
  | [] => rfl
  | e :: es => by rw [List.flatMap_cons, List.length_append, flat2_len es]; simp [e2]; omega
theorem eT_len {es : List Ed} (h : es.length ≤ 66) : (eT es).length ≤ 200 := by
  have := vB_len (v := es.length) (by omega)
  rw [eT, List.length_append, flat2_len]; omega
theorem fold_flat {α : Type} (f : α → List UInt8) : ∀ (l : List α) (s : List UInt8), l.foldl (fun s e => s ++ f e) s = s ++ l.flatMap f
  | [], s => by simp
  | e :: l, s => by rw [List.foldl_cons, fold_flat f l, List.flatMap_cons, List.append_assoc]
theorem w_iedgesText (es : List Ed) (he : es.length ≤ 66) : g_iedgesText es = some (BA (eT es), ()) := by
  have hm : maxLen = 9223372036854775807 := by decide
  show f_iedgesText BIG _ = _
  have hv : inB (es.length : Int) 0 1000000000 = true := inB_t.2 (by omega)
  have h5 := vB_len (v := es.length) (by omega)
  rw [e_iedgesText, w_iVarText, hv, if_pos rfl, Option.bind_some, Int.toNat_natCast]
  simp only
  rw [foldG es (by omega) (fun (s : List UInt8) i => (BA s, i)) (fun i s => s.length ≤ 5 + 2 * i) (fun s e => s ++ e2 e) BA (s0 := vB es.length) (by simpa using h5) (fun i s y _ h => by simp [e2]; omega), fold_flat]
  · rfl
  · intro self s i y hy hs
    have hi := (List.getElem?_eq_some_iff.1 hy).1
    simp only [show ((i : Int) < (es.length : Int)) from by omega, decide_true, cond_true]
    rw [bnd_nat hi, hy, Option.bind_some, wr1 (by omega), by_2, BA_app, BA_size, BA_size, decide_eq_true (by simp; omega)]
    rfl
  · intro self s _
    simp
theorem w_sl09Edges (es : List Ed) (he : es.length ≤ 66) : g_sl09Edges es = some (BA (eT es), ()) := by
  have hm : maxLen = 9223372036854775807 := by decide
  show f_sl09Edges BIG _ = _
  have h5 := vB_len (v := es.length) (by omega)
  rw [e_sl09Edges, w_sl01Var _ (by omega), Option.bind_some]
  simp only
  rw [foldG es (by omega) (fun (s : List UInt8) i => (BA s, i)) (fun i s => s.length ≤ 5 + 2 * i) (fun s e => s ++ e2 e) BA (s0 := vB es.length) (by simpa using h5) (fun i s y _ h => by simp [e2]; omega), fold_flat]
  · rfl
  · intro self s i y hy hs
    have hi := (List.getElem?_eq_some_iff.1 hy).1
    simp only [show ((i : Int) < (es.length : Int)) from by omega, decide_true, cond_true]
    rw [bnd_nat hi, hy, Option.bind_some, wr1 (by omega), w_sl09Byte, Option.bind_some, BA_app, BA_size, BA_size, decide_eq_true (by simp; omega), cond_true, bnd_nat hi, hy, Option.bind_some, w_sl09Byte, Option.bind_some, BA_app, BA_size, BA_size, decide_eq_true (by simp; omega), cond_true, List.append_assoc]
    rfl
  · intro self s _
    simp
def oT (o : Or') : List UInt8 := ((vB o.1.toNat ++ [by8 o.2.1]) ++ vB o.2.2.2.toNat) ++ eT o.2.2.1
theorem ordB_in {n : Int} {o : Or'} (h : ordB n o = true) : 1 ≤ n ∧ n ≤ 12 ∧ 1 ≤ o.1 ∧ o.1 ≤ 100000 ∧ 1 ≤ o.2.1 ∧ o.2.1 ≤ 4 ∧ 0 ≤ o.2.2.2 ∧ o.2.2.2 ≤ 12 ∧ eOk n o.2.2.1 = true := by
  unfold ordB at h
  simp only [Bool.and_eq_true] at h
  obtain ⟨hn, h1, h2, h3, h4⟩ := h
  have hn := inB_t.1 hn
  have h1 := inB_t.1 h1
  have h2 := inB_t.1 h2
  have hv : 0 ≤ o.2.2.2 ∧ o.2.2.2 ≤ 12 := by
    split at h4
    · simp only [Bool.and_eq_true] at h4
      have := inB_t.1 h4.2; omega
    · split at h4 <;> simp only [Bool.and_eq_true, decide_eq_true_eq] at h4 <;> omega
  exact ⟨hn.1, hn.2, h1.1, h1.2, h2.1, h2.2, hv.1, hv.2, h3⟩
theorem oT_len {n : Int} {o : Or'} (h : ordB n o = true) : (oT o).length ≤ 300 := by
  obtain ⟨a1, a2, a3, a4, a5, a6, a7, a8, a9⟩ := ordB_in h
  have h1 := vB_len (v := o.1.toNat) (by omega)
  have h2 := vB_len (v := o.2.2.2.toNat) (by omega)
  have h3 := eT_len (eOk_len a9)
  simp only [oT, List.length_append, List.length_cons, List.length_nil]; omega
theorem w_iOrderText (n : Int) (o : Or') (hl : o.2.2.1.length ≤ 1048576) : g_iOrderText (n, o) = some (if ordB n o then (BA (oT o), true) else (BA [], false), ()) := by
  show f_iOrderText BIG _ = _
  rw [e_iOrderText, h_iOrderOk n o hl, Option.bind_some]
  cases h : ordB n o with
  | false => rfl
  | true =>
    obtain ⟨a1, a2, a3, a4, a5, a6, a7, a8, a9⟩ := ordB_in h
    have h1 := vB_len (v := o.1.toNat) (by omega)
    have h2 := vB_len (v := o.2.2.2.toNat) (by omega)
    have h3 := eT_len (eOk_len a9)
    simp only [Bool.not_true, cond_false, if_true, w_iVarText, Option.bind_some]
    rw [show inB o.1 0 1000000000 = true from inB_t.2 (by omega), show inB o.2.2.2 0 1000000000 = true from inB_t.2 (by omega), if_pos rfl, if_pos rfl, by_1, w_iedgesText _ (eOk_len a9)]
    simp only [BA_app, BA_size, Option.bind_some]
    rw [decide_eq_true (by simp; omega), cond_true, decide_eq_true (by simp; omega), cond_true, decide_eq_true (by simp; omega), cond_true]
    rfl
theorem w_sOrderText (n : Int) (o : Or') (hl : o.2.2.1.length ≤ 1048576) : g_sOrderText (n, o) = some (if ordB n o then (BA (oT o), true) else (BA [], false), ()) := by
  show f_sOrderText BIG _ = _
  rw [e_sOrderText, h_sOrderOk n o hl, Option.bind_some]
  cases h : ordB n o with
  | false => rfl
  | true =>
    obtain ⟨a1, a2, a3, a4, a5, a6, a7, a8, a9⟩ := ordB_in h
    have h1 := vB_len (v := o.1.toNat) (by omega)
    have h2 := vB_len (v := o.2.2.2.toNat) (by omega)
    have h3 := eT_len (eOk_len a9)
    have k1 := w_sl01Var o.1.toNat (by omega)
    have k2 := w_sl01Var o.2.2.2.toNat (by omega)
    rw [Int.toNat_of_nonneg (by omega)] at k1 k2
    simp only [Bool.not_true, cond_false, if_true, k1, k2, w_sl09Byte, w_sl09Edges _ (eOk_len a9), BA_app, BA_size, Option.bind_some]
    rw [decide_eq_true (by simp; omega), cond_true, decide_eq_true (by simp; omega), cond_true, decide_eq_true (by simp; omega), cond_true]
    rfl
def aT (a : An) : List UInt8 := ((vB a.1.toNat ++ flT a.2.1) ++ eT a.2.2.1) ++ a.2.2.2.map by8
theorem ansB_in {n : Int} {a : An} (h : ansB n a = true) : 1 ≤ n ∧ n ≤ 12 ∧ 1 ≤ a.1 ∧ a.1 ≤ 100000 ∧ eOk n a.2.2.1 = true ∧ (a.2.2.2.length : Int) = n ∧ lbOk n a.2.2.2 = true := by
  unfold ansB at h
  simp only [Bool.and_eq_true, inB_t] at h
  obtain ⟨hn, h1, h2, h3⟩ := h
  have h3' := h3
  unfold lbOk at h3
  split at h3
  · rename_i hl
    exact ⟨hn.1, hn.2, h1.1, h1.2, h2, hl, h3'⟩
  · cases h3
theorem aT_len {n : Int} {a : An} (h : ansB n a = true) : (aT a).length ≤ 300 := by
  obtain ⟨a1, a2, a3, a4, a5, a6, _⟩ := ansB_in h
  have h1 := vB_len (v := a.1.toNat) (by omega)
  have h3 := eT_len (eOk_len a5)
  simp only [aT, flT, List.length_append, List.length_cons, List.length_nil, List.length_map]; omega
theorem map_flat (l : List Int) : l.flatMap (fun y => [by8 y]) = l.map by8 := by
  induction l with
  | nil => rfl
  | cons y l ih => rw [List.flatMap_cons, ih]; rfl
theorem w_iAnswerText (n : Int) (a : An) (hl : a.2.2.1.length ≤ 1048576) (hl' : a.2.2.2.length ≤ 1048576) : g_iAnswerText (n, a) = some (if ansB n a then (BA (aT a), true) else (BA [], false), ()) := by
  have hm : maxLen = 9223372036854775807 := by decide
  show f_iAnswerText BIG _ = _
  rw [e_iAnswerText, h_iAnswerOk n a hl hl', Option.bind_some]
  cases h : ansB n a with
  | false => rfl
  | true =>
    obtain ⟨a1, a2, a3, a4, a5, a6, _⟩ := ansB_in h
    have h1 := vB_len (v := a.1.toNat) (by omega)
    have h3 := eT_len (eOk_len a5)
    have hf : (bif a.2.1 then some (ByteArray.mk #[1]) else some (ByteArray.mk #[0]) : Option ByteArray) = some (BA (flT a.2.1)) := by cases a.2.1 <;> rfl
    simp only [Bool.not_true, cond_false, if_true, w_iVarText, Option.bind_some]
    rw [show inB a.1 0 1000000000 = true from inB_t.2 (by omega), if_pos rfl, hf, Option.bind_some, w_iedgesText _ (eOk_len a5)]
    simp only [BA_app, BA_size, Option.bind_some]
    rw [decide_eq_true (by simp [flT]; omega), cond_true, decide_eq_true (by simp [flT]; omega), cond_true,
      foldG a.2.2.2 (by omega) (fun (s : List UInt8) i => (BA s, i)) (fun i s => s.length ≤ 300 + i) (fun s y => s ++ [by8 y]) BA (by simp [flT]; omega) (fun i s y _ h => by simp; omega), fold_flat (fun y => [by8 y]), map_flat]
    · rfl
    · intro self s i y hy hs
      have hi := (List.getElem?_eq_some_iff.1 hy).1
      simp only [show ((i : Int) < (a.2.2.2.length : Int)) from by omega, decide_true, cond_true]
      rw [bnd_nat hi, hy, Option.bind_some, wr1 (by omega), by_1, BA_app, BA_size, BA_size, decide_eq_true (by simp; omega)]
      rfl
    · intro self s _
      simp
theorem w_sAnswerText (n : Int) (a : An) (hl : a.2.2.1.length ≤ 1048576) (hl' : a.2.2.2.length ≤ 1048576) : g_sAnswerText (n, a) = some (if ansB n a then (BA (aT a), true) else (BA [], false), ()) := by
  have hm : maxLen = 9223372036854775807 := by decide
  show f_sAnswerText BIG _ = _
  rw [e_sAnswerText, h_sAnswerOk n a hl hl', Option.bind_some]
  cases h : ansB n a with
  | false => rfl
  | true =>
    obtain ⟨a1, a2, a3, a4, a5, a6, _⟩ := ansB_in h
    have h1 := vB_len (v := a.1.toNat) (by omega)
    have h3 := eT_len (eOk_len a5)
    have k1 := w_sl01Var a.1.toNat (by omega)
    rw [Int.toNat_of_nonneg (by omega)] at k1
    simp only [Bool.not_true, cond_false, if_true, k1, w_sl09Flag, w_sl09Edges _ (eOk_len a5), BA_app, BA_size, Option.bind_some]
    rw [decide_eq_true (by simp [flT]; omega), cond_true, decide_eq_true (by simp [flT]; omega), cond_true,
      foldG a.2.2.2 (by omega) (fun (s : List UInt8) i => (BA s, i)) (fun i s => s.length ≤ 300 + i) (fun s y => s ++ [by8 y]) BA (by simp [flT]; omega) (fun i s y _ h => by simp; omega), fold_flat (fun y => [by8 y]), map_flat]
    · rfl
    · intro self s i y hy hs
      have hi := (List.getElem?_eq_some_iff.1 hy).1
      simp only [show ((i : Int) < n) from by omega, decide_true, cond_true]
      rw [bnd_nat hi, hy, Option.bind_some, wr1 (by omega), w_sl09Byte, Option.bind_some, BA_app, BA_size, BA_size, decide_eq_true (by simp; omega)]
      rfl
    · intro self s _
      simp [a6]
/-- A number read off bytes, of which it takes so many at most; and how many it took. -/
def dec : Nat → List UInt8 → Option (Nat × Nat)
  | 0, _ => none
  | _ + 1, [] => none
  | k + 1, b :: l => if b.toNat < 128 then some (b.toNat, 1) else (dec k l).map fun r => (b.toNat - 128 + 128 * r.1, r.2 + 1)
theorem dec_in : ∀ {k : Nat} {l : List UInt8} {v m : Nat}, dec k l = some (v, m) → 1 ≤ m ∧ m ≤ k ∧ m ≤ l.length ∧ v < 128 ^ m
  | 0, _, _, _, h => by simp [dec] at h
  | _ + 1, [], _, _, h => by simp [dec] at h
  | k + 1, b :: l, v, m, h => by
    unfold dec at h
    split at h
    · cases h; simp; omega
    · simp only [Option.map_eq_some_iff] at h
      obtain ⟨⟨v', m'⟩, h1, h2⟩ := h
      cases h2
      obtain ⟨a1, a2, a3, a4⟩ := dec_in h1
      have := b.toNat_lt
      refine ⟨by omega, by omega, by simp; omega, ?_⟩
      rw [Nat.pow_succ]; simp only; omega
theorem dec_zero : ∀ {k : Nat} {l : List UInt8} {m : Nat}, dec k l = some (0, m) → l[m - 1]? = some 0
  | 0, _, _, h => by simp [dec] at h
  | _ + 1, [], _, h => by simp [dec] at h
  | k + 1, b :: l, m, h => by
    unfold dec at h
    split at h
    · simp only [Option.some.injEq, Prod.mk.injEq] at h
      obtain ⟨h1, rfl⟩ := h
      simp only [Nat.sub_self, List.getElem?_cons_zero, Option.some.injEq]
      exact UInt8.toNat_inj.1 h1
    · simp only [Option.map_eq_some_iff] at h
      obtain ⟨⟨v', m'⟩, h1, h2⟩ := h
      simp only [Prod.mk.injEq] at h2
      obtain ⟨h2, rfl⟩ := h2
      have hv : v' = 0 := by omega
      subst hv
      have h3 := dec_zero h1
      have h4 := (dec_in h1).1
      rw [show m' + 1 - 1 = (m' - 1) + 1 from by omega, List.getElem?_cons_succ]
      exact h3
theorem dec_one {k : Nat} {l : List UInt8} {v : Nat} (h : dec k l = some (v, 1)) : ∃ b, l[0]? = some b ∧ b.toNat = v := by
  cases k with
  | zero => simp [dec] at h
  | succ k =>
    cases l with
    | nil => simp [dec] at h
    | cons b l =>
      unfold dec at h
      split at h
      · cases h; exact ⟨b, rfl, rfl⟩
      · simp only [Option.map_eq_some_iff] at h
        obtain ⟨⟨v', m'⟩, h1, h2⟩ := h
        simp only [Prod.mk.injEq] at h2
        have := (dec_in h1).1
        omega
theorem dec_form : ∀ {k : Nat} {l : List UInt8} {v m : Nat}, k ≤ 5 → dec k l = some (v, m) → (vB v = l.take m ↔ (m = 1 ∨ l[m - 1]? ≠ some 0))
  | 0, _, _, _, _, h => by simp [dec] at h
  | _ + 1, [], _, _, _, h => by simp [dec] at h
  | k + 1, b :: l, v, m, hk, h => by
    have hin := dec_in h
    unfold dec at h
    split at h
    · cases h
      rename_i hb
      rw [vB_lo (by omega), by8_of]
      simp
    · rename_i hb
      simp only [Option.map_eq_some_iff] at h
      obtain ⟨⟨v', m'⟩, h1, h2⟩ := h
      simp only [Prod.mk.injEq] at h2
      obtain ⟨rfl, rfl⟩ := h2
      have hb' := b.toNat_lt
      obtain ⟨a1, a2, a3, a4⟩ := dec_in h1
      have hlt : v' < 34359738368 := Nat.lt_of_lt_of_le a4 (Nat.pow_le_pow_right (by omega) (show m' ≤ 5 by omega))
      have ih := dec_form (show k ≤ 5 by omega) h1
      have hlt2 : b.toNat - 128 + 128 * v' < 34359738368 := Nat.lt_of_lt_of_le hin.2.2.2 (Nat.pow_le_pow_right (by omega) (show m' + 1 ≤ 5 by omega))
      have e1 : (b :: l)[m' + 1 - 1]? = l[m' - 1]? := by rw [show m' + 1 - 1 = (m' - 1) + 1 from by omega, List.getElem?_cons_succ]
      rw [e1, List.take_succ_cons]
      by_cases hs : b.toNat - 128 + 128 * v' ≤ 127
      · have hv : v' = 0 := by omega
        subst hv
        have h0 := dec_zero h1
        rw [vB_lo hs, h0]
        constructor
        · intro h
          have := congrArg List.length h
          rw [List.length_cons, List.length_nil, List.length_cons, List.length_take] at this
          omega
        · rintro (h | h)
          · omega
          · exact absurd rfl h
      · rw [vB_hi (by omega) hlt2]
        have q1 : (b.toNat - 128 + 128 * v') % 128 + 128 = b.toNat := by omega
        have q2 : (b.toNat - 128 + 128 * v') / 128 = v' := by omega
        rw [q1, q2, by8_of, List.cons.injEq]
        simp only [true_and, ih]
        constructor
        · rintro (h | h)
          · subst h
            obtain ⟨c, hc1, hc2⟩ := dec_one h1
            right
            simp only [Nat.sub_self, hc1, ne_eq, Option.some.injEq]
            rintro rfl
            have : v' = 0 := by rw [← hc2]; rfl
            omega
          · exact .inr h
        · rintro (h | h)
          · omega
          · exact .inr h
/-- What is read there, when it is a number in its own bytes. -/
def rdV (l : List UInt8) : Option (Nat × Nat) := match dec 5 l with
  | some (v, m) => if v ≤ 1000000000 ∧ vB v = l.take m then some (v, m) else none
  | none => none
theorem rdV_in {l : List UInt8} {v m : Nat} (h : rdV l = some (v, m)) : v ≤ 1000000000 ∧ vB v = l.take m ∧ 1 ≤ m ∧ m ≤ 5 ∧ m ≤ l.length := by
  unfold rdV at h
  split at h
  · rename_i v' m' hd
    split at h
    · rename_i hc
      cases h
      obtain ⟨a1, a2, a3, a4⟩ := dec_in hd
      exact ⟨hc.1, hc.2, a1, a2, a3⟩
    · cases h
  · cases h
/-- A loop that reads a number. -/
theorem rvLoop (T : List UInt8) (a : Nat) {B : Type} {F : (Int × Int × Int → Option B) → Int × Int × Int → Option B} (z : B) (fin : Nat → Nat → B)
    (hF : ∀ self (acc u i : Nat) b, T[i]? = some b → a ≤ i → i < a + 5 → acc < 268435456 → u ≤ 268435456 → F self ((acc : Int), (u : Int), (i : Int)) = if b.toNat < 128 then some (fin (acc + b.toNat * u) i) else self (((acc + (b.toNat - 128) * u : Nat) : Int), ((u * 128 : Nat) : Int), ((i + 1 : Nat) : Int)))
    (hE : ∀ self (acc u i : Nat), (T[i]? = none ∨ i = a + 5) → a ≤ i → F self ((acc : Int), (u : Int), (i : Int)) = some z) :
    loopT BIG F (0, 1, (a : Int)) = some (match dec 5 (T.drop a) with | some (v, m) => fin v (a + m - 1) | none => z) := by
  have key : ∀ (k n j acc : Nat), j + k = 5 → k < n → acc < 128 ^ j → it F n ((acc : Int), ((128 ^ j : Nat) : Int), ((a + j : Nat) : Int)) = some (match dec k (T.drop (a + j)) with | some (v, m) => fin (acc + 128 ^ j * v) (a + j + m - 1) | none => z) := by
    intro k
    induction k with
    | zero =>
      intro n j acc hj hn ha
      obtain ⟨m, rfl⟩ : ∃ m, n = m + 1 := ⟨n - 1, by omega⟩
      show F (it F m) _ = _
      rw [hE _ _ _ _ (.inr (by omega)) (by omega)]
      rfl
    | succ k ih =>
      intro n j acc hj hn ha
      obtain ⟨m, rfl⟩ : ∃ m, n = m + 1 := ⟨n - 1, by omega⟩
      show F (it F m) _ = _
      have hp : 128 ^ j ≤ 268435456 := Nat.pow_le_pow_right (by omega) (show j ≤ 4 by omega)
      cases hb : T[a + j]? with
      | none =>
        rw [hE _ _ _ _ (.inl hb) (by omega)]
        have : T.drop (a + j) = [] := List.drop_eq_nil_iff.2 (by simpa using hb)
        rw [this]; rfl
      | some b =>
        have hi := (List.getElem?_eq_some_iff.1 hb).1
        have hbl := b.toNat_lt
        have hd : T.drop (a + j) = b :: T.drop (a + (j + 1)) := by
          rw [List.drop_eq_getElem_cons hi]
          congr 1
          exact (List.getElem?_eq_some_iff.1 hb).2
        rw [hF _ _ _ _ b hb (by omega) (by omega) (by omega) hp, hd]
        unfold dec
        split
        · simp only [Nat.add_sub_cancel]
          rw [Nat.mul_comm]
        · have := ih m (j + 1) (acc + (b.toNat - 128) * 128 ^ j) (by omega) (by omega) (by
            rw [Nat.pow_succ]
            have : (b.toNat - 128) * 128 ^ j ≤ 127 * 128 ^ j := Nat.mul_le_mul_right _ (by omega)
            omega)
          rw [Nat.pow_succ] at this
          rw [show a + j + 1 = a + (j + 1) from by omega, this]
          cases dec k (T.drop (a + (j + 1))) with
          | none => rfl
          | some r =>
            obtain ⟨v, m⟩ := r
            simp only [Option.map_some]
            congr 2
            · rw [Nat.mul_add, Nat.mul_comm (128 ^ j) (b.toNat - 128), Nat.mul_assoc]
              omega
            · omega
  have := key 5 BIG 0 0 (by omega) (by decide) (by simp)
  show it F BIG _ = _
  simpa using this
/-- What reading a number gives. -/
def rvR (T : List UInt8) (a : Int) : Int × Int × Bool :=
  if inB a 0 (T.length : Int) then (match rdV (T.drop a.toNat) with | some (v, m) => ((v : Int), a + (m : Int), true) | none => (0, 0, false)) else (0, 0, false)
theorem w_iReadVar (T : List UInt8) (a : Int) (hl : T.length ≤ 2097152) : g_iReadVar (BA T, a) = some (rvR T a, ()) := by
  show f_iReadVar BIG _ = _
  rw [e_iReadVar, h_iin', Option.bind_some, BA_size]
  unfold rvR
  cases ha : inB a 0 (T.length : Int) with
  | false => rfl
  | true =>
    rw [inB_t] at ha
    obtain ⟨a, rfl⟩ : ∃ b : Nat, a = b := ⟨a.toNat, by omega⟩
    simp only [Bool.not_true, cond_false, if_true, Int.toNat_natCast]
    rw [rvLoop T a (z := .inl ()) (fun v i => if (T[i]? = some 0 ∧ a < i) ∨ 1000000000 < v then .inl () else .inr ((v : Int), (i : Int) + 1, true))]
    · unfold rdV
      cases hd : dec 5 (T.drop a) with
      | none => rfl
      | some r =>
        obtain ⟨v, m⟩ := r
        have hf := dec_form (by omega) hd
        obtain ⟨a1, a2, a3, a4⟩ := dec_in hd
        rw [List.getElem?_drop, show a + (m - 1) = a + m - 1 from by omega] at hf
        simp only
        by_cases hc : (T[a + m - 1]? = some 0 ∧ a < a + m - 1) ∨ 1000000000 < v
        · rw [if_pos hc, if_neg]
          · rfl
          · rintro ⟨h1, h2⟩
            have := hf.1 h2
            rcases hc with ⟨hc1, hc2⟩ | hc
            · rcases this with h | h
              · omega
              · exact h hc1
            · omega
        · rw [if_neg hc, if_pos]
          · rw [show ((a + m - 1 : Nat) : Int) + 1 = (a : Int) + (m : Int) from by omega]
            rfl
          · refine ⟨Nat.le_of_not_lt fun h => hc (.inr h), hf.2 ?_⟩
            by_cases hm : m = 1
            · exact .inl hm
            · exact .inr fun h => hc (.inl ⟨h, by omega⟩)
    · intro self acc u i b hb hai hia hacc hu
      have hi := (List.getElem?_eq_some_iff.1 hb).1
      have hbl := b.toNat_lt
      have hbu : b.toNat * u ≤ 255 * 268435456 := Nat.mul_le_mul (by omega) hu
      have hml : maxLen = 9223372036854775807 := by decide
      simp only [show ((i : Int) < (T.length : Int)) from by omega, decide_true, cond_true, Option.bind_some]
      rw [wr (n := (a : Int) + 5) (by omega) (by omega), decide_eq_true (show (i : Int) < (a : Int) + 5 from by omega), cond_true, bnd_nat hi, BA_get, hb, Option.bind_some]
      rw [show decide ((128 : Int) = 0) = false from rfl, cond_false, wr (n := (b.toNat : Int)) (by omega) (by omega)]
      rw [Int.tmod_eq_emod_of_nonneg (by omega)]
      by_cases h : b.toNat < 128
      · have e1 : (b.toNat : Int) % 128 = (b.toNat : Int) := by omega
        have e2 : (b.toNat : Int) * (u : Int) = ((b.toNat * u : Nat) : Int) := by simp
        rw [decide_eq_true (by omega), cond_true, if_pos h, e1, e2, wrapi (by omega), show ((acc : Int) + ((b.toNat * u : Nat) : Int)) = ((acc + b.toNat * u : Nat) : Int) from by omega, wrapi (by omega), wr1 (by omega)]
        have hz : some b = some 0 ↔ b.toNat = 0 := by
          rw [Option.some.injEq]
          constructor
          · rintro rfl; rfl
          · intro h; exact UInt8.toNat_inj.1 h
        by_cases c1 : b.toNat = 0
        · rw [decide_eq_true (by omega), cond_true]
          by_cases c2 : a < i
          · rw [decide_eq_true (by omega)]
            simp only [cond_true, Option.bind_some]
            rw [if_pos (.inl ⟨hz.2 c1, c2⟩)]
          · rw [decide_eq_false (by omega)]
            simp only [cond_false, Option.bind_some]
            by_cases c3 : 1000000000 < acc + b.toNat * u
            · rw [decide_eq_true (by omega), if_pos (.inr c3)]; rfl
            · rw [decide_eq_false (by omega), if_neg (by rintro (h | h) <;> omega)]; rfl
        · rw [decide_eq_false (by omega)]
          simp only [cond_false, Option.bind_some]
          by_cases c3 : 1000000000 < acc + b.toNat * u
          · rw [decide_eq_true (by omega), if_pos (.inr c3)]; rfl
          · rw [decide_eq_false (by omega), if_neg (by
              rintro (⟨h, _⟩ | h)
              · exact c1 (hz.1 h)
              · omega)]; rfl
      · have e1 : (b.toNat : Int) % 128 = ((b.toNat - 128 : Nat) : Int) := by omega
        have e2 : ((b.toNat - 128 : Nat) : Int) * (u : Int) = (((b.toNat - 128) * u : Nat) : Int) := by simp
        have hb2 : (b.toNat - 128) * u ≤ b.toNat * u := Nat.mul_le_mul_right _ (by omega)
        rw [decide_eq_false (by omega), cond_false, if_neg h, e1, e2, wrapi (by omega), show ((acc : Int) + (((b.toNat - 128) * u : Nat) : Int)) = ((acc + (b.toNat - 128) * u : Nat) : Int) from by omega, wrapi (by omega), wr1 (by omega), show (u : Int) * 128 = ((u * 128 : Nat) : Int) from by simp, wrapi (by omega)]
    · intro self acc u i hi hai
      simp only
      by_cases c : (i : Int) < (T.length : Int)
      · rcases hi with hi | hi
        · rw [List.getElem?_eq_none_iff] at hi; omega
        · rw [decide_eq_true c, cond_true, wr (n := (a : Int) + 5) (by omega) (by omega), decide_eq_false (by omega)]; rfl
      · rw [decide_eq_false c]; rfl
theorem w_sReadVar (T : List UInt8) (a : Int) (hl : T.length ≤ 2097152) : g_sReadVar (BA T, a) = some (rvR T a, ()) := by
  show f_sReadVar BIG _ = _
  rw [e_sReadVar, h_sl01In', Option.bind_some, BA_size]
  unfold rvR
  cases ha : inB a 0 (T.length : Int) with
  | false => rfl
  | true =>
    rw [inB_t] at ha
    obtain ⟨a, rfl⟩ : ∃ b : Nat, a = b := ⟨a.toNat, by omega⟩
    simp only [Bool.not_true, cond_false, if_true, Int.toNat_natCast]
    rw [rvLoop T a (z := .inl ()) (fun v i => if 1000000000 < v ∨ vB v ≠ (T.drop a).take (i + 1 - a) then .inr (0, 0, false) else .inr ((v : Int), (i : Int) + 1, true))]
    · unfold rdV
      cases hd : dec 5 (T.drop a) with
      | none => rfl
      | some r =>
        obtain ⟨v, m⟩ := r
        obtain ⟨a1, a2, a3, a4⟩ := dec_in hd
        simp only
        rw [show a + m - 1 + 1 - a = m from by omega]
        by_cases hc : 1000000000 < v ∨ vB v ≠ (T.drop a).take m
        · rw [if_pos hc, if_neg]
          · rfl
          · rintro ⟨h1, h2⟩
            rcases hc with hc | hc
            · omega
            · exact hc h2
        · rw [if_neg hc, if_pos]
          · rw [show ((a + m - 1 : Nat) : Int) + 1 = (a : Int) + (m : Int) from by omega]
            rfl
          · refine ⟨Nat.le_of_not_lt fun h => hc (.inl h), Classical.byContradiction fun h => hc (.inr h)⟩
    · intro self acc u i b hb hai hia hacc hu
      have hi := (List.getElem?_eq_some_iff.1 hb).1
      have hbl := b.toNat_lt
      have hbu : b.toNat * u ≤ 255 * 268435456 := Nat.mul_le_mul (by omega) hu
      have hml : maxLen = 9223372036854775807 := by decide
      simp only [show ((i : Int) < (T.length : Int)) from by omega, decide_true, cond_true, Option.bind_some]
      rw [wr (n := (a : Int) + 5) (by omega) (by omega), decide_eq_true (show (i : Int) < (a : Int) + 5 from by omega), cond_true, bnd_nat hi, BA_get, hb, Option.bind_some]
      rw [show decide ((128 : Int) = 0) = false from rfl, cond_false, bnd_nat hi, BA_get, hb, Option.bind_some, wr (n := (b.toNat : Int)) (by omega) (by omega)]
      rw [Int.tmod_eq_emod_of_nonneg (by omega)]
      by_cases h : b.toNat < 128
      · have e1 : (b.toNat : Int) % 128 = (b.toNat : Int) := by omega
        have e2 : (b.toNat : Int) * (u : Int) = ((b.toNat * u : Nat) : Int) := by simp
        have hu5 : acc + b.toNat * u < 34359738368 := by
          have : b.toNat * u ≤ 127 * 268435456 := Nat.mul_le_mul (by omega) hu
          omega
        rw [decide_eq_true (by omega), cond_true, if_pos h, e1, e2, wrapi (by omega), show ((acc : Int) + ((b.toNat * u : Nat) : Int)) = ((acc + b.toNat * u : Nat) : Int) from by omega, wrapi (by omega), wr1 (by omega)]
        by_cases c3 : 1000000000 < acc + b.toNat * u
        · rw [decide_eq_true (by omega), if_pos (.inl c3)]; rfl
        · rw [decide_eq_false (by omega), cond_false, w_sl01Var _ hu5, Option.bind_some, decide_eq_true (by omega), cond_true]
          simp only [Int.toNat_natCast, BA_ext, BA_toList, Option.bind_some]
          by_cases c4 : vB (acc + b.toNat * u) = (T.drop a).take (i + 1 - a)
          · rw [if_neg (by rintro (h | h); omega; exact h c4), c4, beq_self_eq_true]; rfl
          · rw [if_pos (.inr c4), beq_eq_false_iff_ne.2 c4]; rfl
      · have e1 : (b.toNat : Int) % 128 = ((b.toNat - 128 : Nat) : Int) := by omega
        have e2 : ((b.toNat - 128 : Nat) : Int) * (u : Int) = (((b.toNat - 128) * u : Nat) : Int) := by simp
        have hb2 : (b.toNat - 128) * u ≤ b.toNat * u := Nat.mul_le_mul_right _ (by omega)
        rw [decide_eq_false (by omega), cond_false, if_neg h, e1, e2, wrapi (by omega), show ((acc : Int) + (((b.toNat - 128) * u : Nat) : Int)) = ((acc + (b.toNat - 128) * u : Nat) : Int) from by omega, wrapi (by omega), wr1 (by omega), show (u : Int) * 128 = ((u * 128 : Nat) : Int) from by simp, wrapi (by omega)]
    · intro self acc u i hi hai
      simp only
      by_cases c : (i : Int) < (T.length : Int)
      · rcases hi with hi | hi
        · rw [List.getElem?_eq_none_iff] at hi; omega
        · rw [decide_eq_true c, cond_true, wr (n := (a : Int) + 5) (by omega) (by omega), decide_eq_false (by omega)]; rfl
      · rw [decide_eq_false c]; rfl
abbrev St := Nat × Bool
def nm (T : List UInt8) (s : St) : Int × St :=
  if s.2 then (0, (s.1, true)) else match rdV (T.drop s.1) with
  | some (v, m) => ((v : Int), (s.1 + m, false))
  | none => (0, (s.1, true))
def on (T : List UInt8) (s : St) : Int × St :=
  if s.2 then (0, (s.1, true)) else match T[s.1]? with
  | some b => ((b.toNat : Int), (s.1 + 1, false))
  | none => (0, (s.1, true))
theorem nm_le {T : List UInt8} {s : St} (h : s.1 ≤ T.length) : (nm T s).2.1 ≤ T.length := by
  unfold nm
  split
  · exact h
  · split
    · rename_i v m hd
      have := (rdV_in hd).2.2.2.2
      rw [List.length_drop] at this
      simp only; omega
    · exact h
theorem on_le {T : List UInt8} {s : St} (h : s.1 ≤ T.length) : (on T s).2.1 ≤ T.length := by
  unfold on
  split
  · exact h
  · split
    · rename_i b hb
      exact (List.getElem?_eq_some_iff.1 hb).1
    · exact h
theorem nm_bad {T : List UInt8} {s : St} (h : (nm T s).2.2 = false) : s.2 = false := by
  unfold nm at h
  split at h
  · simp at h
  · rename_i hs; simpa using hs
theorem on_bad {T : List UInt8} {s : St} (h : (on T s).2.2 = false) : s.2 = false := by
  unfold on at h
  split at h
  · simp at h
  · rename_i hs; simpa using hs
/-- What was read stands there. -/
theorem nm_take {T : List UInt8} {s : St} (hs : s.1 ≤ T.length) (h : (nm T s).2.2 = false) : T.take (nm T s).2.1 = T.take s.1 ++ vB (nm T s).1.toNat ∧ 0 ≤ (nm T s).1 ∧ (nm T s).1 ≤ 1000000000 := by
  have hb := nm_bad h
  unfold nm at h ⊢
  rw [if_neg (by simp [hb])] at h ⊢
  split at h
  · rename_i v m hd
    have hi := rdV_in hd
    simp only [hd]
    refine ⟨?_, by omega, by omega⟩
    rw [Int.toNat_natCast, hi.2.1, List.take_add]
  · simp at h
theorem on_take {T : List UInt8} {s : St} (h : (on T s).2.2 = false) : T.take (on T s).2.1 = T.take s.1 ++ [by8 (on T s).1] ∧ 0 ≤ (on T s).1 ∧ (on T s).1 ≤ 255 ∧ (on T s).2.1 = s.1 + 1 := by
  have hb := on_bad h
  unfold on at h ⊢
  rw [if_neg (by simp [hb])] at h ⊢
  split at h
  · rename_i b hb'
    simp only [hb']
    have := b.toNat_lt
    refine ⟨?_, by omega, by omega, trivial⟩
    rw [by8_of, List.take_add_one, hb']
    rfl
  · simp at h
theorem w_ireader_num (T : List UInt8) (s : St) (hs : s.1 ≤ T.length) (hl : T.length ≤ 2097152) : g_ireader_num (BA T, (s.1 : Int), s.2) = some ((nm T s).1, (BA T, ((nm T s).2.1 : Int), (nm T s).2.2)) := by
  show f_ireader_num BIG _ = _
  rw [e_ireader_num]
  dsimp only
  rw [w_iReadVar T _ hl, Option.bind_some]
  unfold rvR nm
  rw [show inB (s.1 : Int) 0 (T.length : Int) = true from inB_t.2 (by omega), if_pos rfl, Int.toNat_natCast]
  cases s.2 with
  | true => rfl
  | false =>
    cases rdV (T.drop s.1) with
    | none => rfl
    | some r => rfl
theorem w_sl09Var (T : List UInt8) (s : St) (hs : s.1 ≤ T.length) (hl : T.length ≤ 2097152) : g_sl09Var (BA T, (s.1 : Int), s.2) = some ((nm T s).1, (BA T, ((nm T s).2.1 : Int), (nm T s).2.2)) := by
  show f_sl09Var BIG _ = _
  rw [e_sl09Var]
  dsimp only
  rw [w_sReadVar T _ hl, Option.bind_some]
  unfold rvR nm
  rw [show inB (s.1 : Int) 0 (T.length : Int) = true from inB_t.2 (by omega), if_pos rfl, Int.toNat_natCast]
  cases s.2 with
  | true => rfl
  | false =>
    cases rdV (T.drop s.1) with
    | none => rfl
    | some r => rfl
theorem w_ireader_one (T : List UInt8) (s : St) (hs : s.1 ≤ T.length) (hl : T.length ≤ 2097152) : g_ireader_one (BA T, (s.1 : Int), s.2) = some ((on T s).1, (BA T, ((on T s).2.1 : Int), (on T s).2.2)) := by
  show f_ireader_one BIG _ = _
  rw [e_ireader_one]
  dsimp only
  rw [BA_size]
  unfold on
  cases hb : s.2 with
  | true => rfl
  | false =>
    simp only [cond_false, Option.bind_some, Bool.false_eq_true, if_false]
    by_cases h : s.1 < T.length
    · rw [decide_eq_false (by omega), cond_false, wr (n := (s.1 : Int) + 1) (by omega) (by omega), wr (by omega) (by omega), show (s.1 : Int) + 1 - 1 = (s.1 : Int) from by omega, bnd_nat h, BA_get, List.getElem?_eq_getElem h]
      have := (T[s.1]).toNat_lt
      simp only [Option.bind_some]
      rw [wr (by omega) (by omega)]
      rfl
    · rw [decide_eq_true (by omega), List.getElem?_eq_none (by omega)]; rfl
theorem w_sl09One (T : List UInt8) (s : St) (hs : s.1 ≤ T.length) (hl : T.length ≤ 2097152) : g_sl09One (BA T, (s.1 : Int), s.2) = some ((on T s).1, (BA T, ((on T s).2.1 : Int), (on T s).2.2)) := by
  show f_sl09One BIG _ = _
  rw [e_sl09One]
  have ht : g_sl09Take ((BA T, (s.1 : Int), s.2), 1) = f_sl09Take BIG ((BA T, (s.1 : Int), s.2), 1) := rfl
  rw [ht, e_sl09Take]
  dsimp only
  rw [BA_size]
  unfold on
  cases hb : s.2 with
  | true => rfl
  | false =>
    simp only [cond_false, Option.bind_some, Bool.false_eq_true, if_false]
    rw [wr (n := (T.length : Int) - (s.1 : Int)) (by omega) (by omega)]
    by_cases h : s.1 < T.length
    · rw [decide_eq_false (by omega), cond_false, wr (n := (s.1 : Int) + 1) (by omega) (by omega), wr (n := (s.1 : Int) + 1 - 1) (by omega) (by omega), decide_eq_true (by omega)]
      simp only [cond_true, Option.bind_some, cond_false, BA_ext]
      rw [show ((s.1 : Int) + 1 - 1).toNat = s.1 from by omega, show ((s.1 : Int) + 1).toNat = s.1 + 1 from by omega, List.getElem?_eq_getElem h, BA_size]
      have h1 : ((T.drop s.1).take (s.1 + 1 - s.1)).length = 1 := by simp; omega
      rw [h1]
      have h2 : (BA ((T.drop s.1).take (s.1 + 1 - s.1)))[0]? = some T[s.1] := by
        rw [BA_get, List.getElem?_take_of_lt (by omega), List.getElem?_drop, Nat.add_zero, List.getElem?_eq_getElem h]
      have hbd : ∀ {B : Type} (k : Nat → Option B), bnd 1 (0 : Int) k = k 0 := fun k => rfl
      rw [hbd, h2]
      have := (T[s.1]).toNat_lt
      simp only [Option.bind_some]
      rw [wr (by omega) (by omega)]
      rfl
    · rw [decide_eq_true (by omega), List.getElem?_eq_none (by omega)]; rfl
def edF (T : List UInt8) : Nat → St → List Ed → St × List Ed
  | 0, s, out => (s, out)
  | k + 1, s, out => if s.2 then (s, out) else edF T k (on T (on T s).2).2 (out ++ [((on T s).1, (on T (on T s).2).1)])
theorem edF_spec (T : List UInt8) : ∀ (k : Nat) (s : St) (out : List Ed), s.1 ≤ T.length → (edF T k s out).1.1 ≤ T.length ∧ ((edF T k s out).1.2 = false → s.2 = false ∧ ∃ es, (edF T k s out).2 = out ++ es ∧ es.length = k ∧ T.take (edF T k s out).1.1 = T.take s.1 ++ es.flatMap e2)
  | 0, s, out, h => ⟨h, fun hb => ⟨hb, [], by simp [edF]⟩⟩
  | k + 1, s, out, h => by
    unfold edF
    cases hs : s.2 with
    | true => exact ⟨h, fun hb => by rw [if_pos rfl] at hb; rw [hs] at hb; cases hb⟩
    | false =>
      simp only [Bool.false_eq_true, if_false]
      have h1 := on_le h
      have h2 := on_le h1
      obtain ⟨a1, a2⟩ := edF_spec T k (on T (on T s).2).2 (out ++ [((on T s).1, (on T (on T s).2).1)]) h2
      refine ⟨a1, fun hb => ⟨trivial, ?_⟩⟩
      obtain ⟨b1, es, b2, b3, b4⟩ := a2 hb
      have c1 := on_take b1
      have c2 := on_take (on_bad b1)
      refine ⟨((on T s).1, (on T (on T s).2).1) :: es, by rw [b2]; simp, by simp [b3], ?_⟩
      rw [b4, c1.1, c2.1, List.flatMap_cons]
      simp [e2]
theorem edLoop (T : List UInt8) (hl : T.length ≤ 2097152) {X : Type} {F : (X → Option ((ByteArray × Int × Bool) × List Ed)) → X → Option ((ByteArray × Int × Bool) × List Ed)} (mk : St → List Ed → Nat → X) (K : Nat)
    (hF : ∀ self (s : St) (out : List Ed) (k : Nat), k + 1 ≤ K → s.1 ≤ T.length → (s.2 = false → out.length ≤ s.1) → F self (mk s out (k + 1)) = if s.2 then some ((BA T, (s.1 : Int), s.2), out) else self (mk (on T (on T s).2).2 (out ++ [((on T s).1, (on T (on T s).2).1)]) k))
    (hE : ∀ self (s : St) (out : List Ed), F self (mk s out 0) = some ((BA T, (s.1 : Int), s.2), out)) :
    ∀ (k n : Nat) (s : St) (out : List Ed), k ≤ K → k < n → s.1 ≤ T.length → (s.2 = false → out.length ≤ s.1) → it F n (mk s out k) = some ((BA T, ((edF T k s out).1.1 : Int), (edF T k s out).1.2), (edF T k s out).2)
  | 0, n, s, out, hk, hn, hs, ho => by
    obtain ⟨m, rfl⟩ : ∃ m, n = m + 1 := ⟨n - 1, by omega⟩
    exact hE _ _ _
  | k + 1, n, s, out, hk, hn, hs, ho => by
    obtain ⟨m, rfl⟩ : ∃ m, n = m + 1 := ⟨n - 1, by omega⟩
    show F (it F m) _ = _
    rw [hF _ _ _ _ hk hs ho]
    unfold edF
    cases hb : s.2 with
    | true => simp [hb]
    | false =>
      simp only [Bool.false_eq_true, if_false]
      refine edLoop T hl mk K hF hE k m _ _ (by omega) (by omega) (on_le (on_le hs)) (fun h => ?_)
      have h1 := (on_take h).2.2.2
      have h2 := (on_take (on_bad h)).2.2.2
      have := ho hb
      simp; omega
theorem nm_nn (T : List UInt8) (s : St) : 0 ≤ (nm T s).1 ∧ (nm T s).1 ≤ 1000000000 := by
  unfold nm
  split
  · simp
  · split
    · rename_i v m hd
      have := (rdV_in hd).1
      simp only; omega
    · simp
theorem w_ireader_edges (T : List UInt8) (s : St) (hs : s.1 ≤ T.length) (hl : T.length ≤ 2097152) : g_ireader_edges (BA T, (s.1 : Int), s.2) =
    some ((edF T (nm T s).1.toNat (nm T s).2 []).2, (BA T, ((edF T (nm T s).1.toNat (nm T s).2 []).1.1 : Int), (edF T (nm T s).1.toNat (nm T s).2 []).1.2)) := by
  show f_ireader_edges BIG _ = _
  rw [e_ireader_edges, w_ireader_num T s hs hl, Option.bind_some]
  have hnn := nm_nn T s
  obtain ⟨k, hk⟩ : ∃ k : Nat, (nm T s).1 = k := ⟨(nm T s).1.toNat, by omega⟩
  simp only
  rw [hk, Int.toNat_natCast]
  have L := edLoop T hl (F := fun self2 x1 =>
    Option.bind (bif decide ((0 : Int) < x1.2.2) then
      some !x1.1.2.2
     else some false : Option (Bool)) fun x3 =>
    bif x3 then
     Option.bind (g_ireader_one x1.1) fun r4 =>
     Option.bind (g_ireader_one r4.2) fun r5 =>
     bif decide (x1.2.1.length + ([(r4.1, r5.1)]).length ≤ 4294967296) then
      self2 (r5.2, x1.2.1 ++ ([(r4.1, r5.1)]), IntKind.wrap .i64 (x1.2.2 - (1 : Int)))
     else none
    else some (x1.1, x1.2.1)) (fun s out k => ((BA T, (s.1 : Int), s.2), out, (k : Int))) 1000000000 (by
    intro self s out k hk hs ho
    simp only [show (0 : Int) < ((k + 1 : Nat) : Int) from by omega, decide_true, cond_true, Option.bind_some]
    cases hb : s.2 with
    | true => rfl
    | false =>
      have := ho hb
      simp only [Bool.not_false, cond_true, Bool.false_eq_true, if_false]
      rw [← hb, w_ireader_one T s hs hl, Option.bind_some, w_ireader_one T _ (on_le hs) hl, Option.bind_some, decide_eq_true (by simp; omega), cond_true, wr (by omega) (by omega), show ((k + 1 : Nat) : Int) - 1 = (k : Int) from by omega]) (by
    intro self s out
    simp) k BIG (nm T s).2 [] (by omega) (by simp [BIG]; omega) (nm_le hs) (by simp)
  unfold loopT
  rw [L]
  rfl
theorem w_sl09ReadEdges (T : List UInt8) (s : St) (hs : s.1 ≤ T.length) (hl : T.length ≤ 2097152) : g_sl09ReadEdges (BA T, (s.1 : Int), s.2) =
    some ((edF T (min (nm T s).1.toNat 100) (nm T s).2 []).2, (BA T, ((edF T (min (nm T s).1.toNat 100) (nm T s).2 []).1.1 : Int), (edF T (min (nm T s).1.toNat 100) (nm T s).2 []).1.2)) := by
  show f_sl09ReadEdges BIG _ = _
  rw [e_sl09ReadEdges, w_sl09Var T s hs hl, Option.bind_some]
  have hnn := nm_nn T s
  obtain ⟨N, hN⟩ : ∃ k : Nat, (nm T s).1 = k := ⟨(nm T s).1.toNat, by omega⟩
  simp only
  rw [hN, Int.toNat_natCast]
  have L := edLoop T hl (F := fun self2 x1 =>
    Option.bind (bif decide (x1.2.2 < (N : Int)) then
      bif decide (x1.2.2 < (100 : Int)) then
       some !x1.1.2.2
      else some false
     else some false : Option (Bool)) fun x3 =>
    bif x3 then
     Option.bind (g_sl09One x1.1) fun r4 =>
     Option.bind (g_sl09One r4.2) fun r5 =>
     bif decide (x1.2.1.length + ([(r4.1, r5.1)]).length ≤ 4294967296) then
      self2 (r5.2, x1.2.1 ++ ([(r4.1, r5.1)]), IntKind.wrap .i64 (x1.2.2 + (1 : Int)))
     else none
    else some (x1.1, x1.2.1)) (fun s out k => ((BA T, (s.1 : Int), s.2), out, ((min N 100 : Nat) : Int) - (k : Int))) (min N 100) (by
    intro self s out k hk hs ho
    simp only [show ((min N 100 : Nat) : Int) - ((k + 1 : Nat) : Int) < (N : Int) from by omega, show ((min N 100 : Nat) : Int) - ((k + 1 : Nat) : Int) < 100 from by omega, decide_true, cond_true, Option.bind_some]
    cases hb : s.2 with
    | true => rfl
    | false =>
      have := ho hb
      simp only [Bool.not_false, cond_true, Bool.false_eq_true, if_false]
      rw [← hb, w_sl09One T s hs hl, Option.bind_some, w_sl09One T _ (on_le hs) hl, Option.bind_some, decide_eq_true (by simp; omega), cond_true, wr (by omega) (by omega), show ((min N 100 : Nat) : Int) - ((k + 1 : Nat) : Int) + 1 = ((min N 100 : Nat) : Int) - (k : Int) from by omega]) (by
    intro self s out
    simp only [Int.natCast_zero, Int.sub_zero]
    by_cases h : ((min N 100 : Nat) : Int) < (N : Int)
    · rw [decide_eq_true h, cond_true, decide_eq_false (by omega)]; rfl
    · rw [decide_eq_false h]; rfl) (min N 100) BIG (nm T s).2 [] (by omega) (by simp [BIG]; omega) (nm_le hs) (by simp)
  rw [show ((min N 100 : Nat) : Int) - ((min N 100 : Nat) : Int) = 0 from by omega] at L
  unfold loopT
  rw [L]
  rfl
theorem edF_len (T : List UInt8) : ∀ (k : Nat) (s : St) (out : List Ed), (edF T k s out).2.length ≤ out.length + k
  | 0, s, out => by simp [edF]
  | k + 1, s, out => by
    unfold edF
    split
    · exact Nat.le_add_right _ _
    · have := edF_len T k (on T (on T s).2).2 (out ++ [((on T s).1, (on T (on T s).2).1)])
      simp at this; omega
/-- Several edges read, with their number ahead. -/
theorem ed_take {T : List UInt8} {s : St} {K : Nat} (hs : s.1 ≤ T.length) (hK : K = (nm T s).1.toNat) (h : (edF T K (nm T s).2 []).1.2 = false) :
    (nm T s).2.2 = false ∧ (edF T K (nm T s).2 []).2.length = K ∧ T.take (edF T K (nm T s).2 []).1.1 = T.take s.1 ++ eT (edF T K (nm T s).2 []).2 := by
  obtain ⟨h1, h2⟩ := edF_spec T K (nm T s).2 [] (nm_le hs)
  obtain ⟨b1, es, b2, b3, b4⟩ := h2 h
  have c := nm_take hs b1
  rw [List.nil_append] at b2
  refine ⟨b1, by rw [b2]; exact b3, ?_⟩
  rw [b4, c.1, ← hK, List.append_assoc, b2]
  unfold eT
  rw [b3]
theorem take_full {T : List UInt8} {p : Nat} (hp : p ≤ T.length) : T.take p = T ↔ p = T.length := by
  constructor
  · intro h
    have := congrArg List.length h
    rw [List.length_take] at this; omega
  · rintro rfl; exact List.take_length
def q0 (T : List UInt8) : Int × St := nm T (0, false)
def q1 (T : List UInt8) : Int × St := on T (q0 T).2
def q2 (T : List UInt8) : Int × St := nm T (q1 T).2
def q3 (T : List UInt8) (K : Nat) : St × List Ed := edF T K (nm T (q2 T).2).2 []
def oQ (T : List UInt8) (K : Nat) : Or' := ((q0 T).1, (q1 T).1, (q3 T K).2, (q2 T).1)
theorem q_le (T : List UInt8) : (q0 T).2.1 ≤ T.length ∧ (q1 T).2.1 ≤ T.length ∧ (q2 T).2.1 ≤ T.length :=
  have h0 := nm_le (T := T) (s := (0, false)) (Nat.zero_le _)
  ⟨h0, on_le h0, nm_le (on_le h0)⟩
theorem oQ_take {T : List UInt8} {K : Nat} (hK : K = (nm T (q2 T).2).1.toNat) (h : (q3 T K).1.2 = false) : (q3 T K).2.length = K ∧ T.take (q3 T K).1.1 = oT (oQ T K) ∧ (q3 T K).1.1 ≤ T.length := by
  obtain ⟨l0, l1, l2⟩ := q_le T
  obtain ⟨a1, a2, a3⟩ := ed_take l2 hK h
  have a4 := nm_bad a1
  have b2 := nm_take l1 a4
  have a5 := nm_bad a4
  have b1 := on_take a5
  have a6 := on_bad a5
  have b0 := nm_take (Nat.zero_le _) a6
  refine ⟨a2, ?_, (edF_spec T K (nm T (q2 T).2).2 [] (nm_le l2)).1⟩
  have e0 : T.take (q0 T).2.1 = vB (q0 T).1.toNat := by have := b0.1; simp only [List.take_zero, List.nil_append] at this; exact this
  have e1 : T.take (q1 T).2.1 = vB (q0 T).1.toNat ++ [by8 (q1 T).1] := by rw [← e0]; exact b1.1
  have e2 : T.take (q2 T).2.1 = (vB (q0 T).1.toNat ++ [by8 (q1 T).1]) ++ vB (q2 T).1.toNat := by rw [← e1]; exact b2.1
  show T.take (q3 T K).1.1 = ((vB (q0 T).1.toNat ++ [by8 (q1 T).1]) ++ vB (q2 T).1.toNat) ++ eT (q3 T K).2
  rw [← e2]; exact a3
/-- The order that stands in a text. -/
def rdO (n : Int) (T : List UInt8) : Option Or' :=
  let K := (nm T (q2 T).2).1.toNat
  if (q3 T K).1.2 = false ∧ (q3 T K).1.1 = T.length ∧ ordB n (oQ T K) = true then some (oQ T K) else none
theorem rdO_some {n : Int} {T : List UInt8} {o : Or'} (h : rdO n T = some o) : ordB n o = true ∧ oT o = T := by
  unfold rdO at h
  simp only at h
  split at h
  · rename_i hc
    cases h
    have := oQ_take rfl hc.1
    refine ⟨hc.2.2, ?_⟩
    rw [← this.2.1, hc.2.1, List.take_length]
  · cases h
def roR : Option Or' → Int × Int × List Ed × Int × Bool
  | some o => (o.1, o.2.1, o.2.2.1, o.2.2.2, true)
  | none => (0, 0, [], 0, false)
theorem w_iReadOrder (n : Int) (T : List UInt8) (hl : T.length ≤ 1048576) : g_iReadOrder (n, BA T) = some (roR (rdO n T), ()) := by
  obtain ⟨l0, l1, l2⟩ := q_le T
  show f_iReadOrder BIG _ = _
  have r0 : g_ireader_num (BA T, (0 : Int), false) = some ((q0 T).1, (BA T, ((q0 T).2.1 : Int), (q0 T).2.2)) := w_ireader_num T (0, false) (Nat.zero_le _) (by omega)
  have r1 : g_ireader_one (BA T, ((q0 T).2.1 : Int), (q0 T).2.2) = some ((q1 T).1, (BA T, ((q1 T).2.1 : Int), (q1 T).2.2)) := w_ireader_one T (q0 T).2 l0 (by omega)
  have r2 : g_ireader_num (BA T, ((q1 T).2.1 : Int), (q1 T).2.2) = some ((q2 T).1, (BA T, ((q2 T).2.1 : Int), (q2 T).2.2)) := w_ireader_num T (q1 T).2 l1 (by omega)
  have r3 : g_ireader_edges (BA T, ((q2 T).2.1 : Int), (q2 T).2.2) = some ((q3 T (nm T (q2 T).2).1.toNat).2, (BA T, ((q3 T (nm T (q2 T).2).1.toNat).1.1 : Int), (q3 T (nm T (q2 T).2).1.toNat).1.2)) := w_ireader_edges T (q2 T).2 l2 (by omega)
  rw [e_iReadOrder, r0, Option.bind_some]
  simp only [r1, r2, r3, Option.bind_some]
  unfold rdO
  simp only
  generalize hK : (nm T (q2 T).2).1.toNat = K
  have he : ∀ p b, g_ireader_ends (BA T, p, b) = some (!b && decide (p = (T.length : Int)), (BA T, p, b)) := by
    intro p b
    show f_ireader_ends BIG _ = _
    rw [e_ireader_ends]
    cases b <;> rfl
  rw [he]
  simp only [Option.bind_some]
  show (Option.bind (bif !(!(q3 T K).1.2 && decide (((q3 T K).1.1 : Int) = (T.length : Int))) then some true else Option.bind (g_iOrderOk (n, oQ T K)) fun r5 => some !r5.1 : Option Bool) fun x6 =>
    bif x6 then some (((0 : Int), (0 : Int), [], (0 : Int), false), ()) else some (((q0 T).1, (q1 T).1, (q3 T K).2, (q2 T).1, true), ())) = _
  cases hb : (q3 T K).1.2 with
  | true => simp [roR]
  | false =>
    by_cases hp : (q3 T K).1.1 = T.length
    · have hq := oQ_take hK.symm hb
      have hlen : (q3 T K).2.length ≤ 1048576 := by
        have h1 := congrArg List.length hq.2.1
        rw [List.length_take] at h1
        simp only [oT, eT, List.length_append, flat2_len] at h1
        have : (oQ T K).2.2.1 = (q3 T K).2 := rfl
        rw [this] at h1
        omega
      rw [h_iOrderOk n (oQ T K) hlen]
      simp only [hp, decide_true, Bool.not_false, Bool.and_self, Bool.not_true, cond_false, Option.bind_some, true_and]
      cases hO : ordB n (oQ T K) with
      | false => simp [roR]
      | true => simp [roR, oQ]
    · have : decide (((q3 T K).1.1 : Int) = (T.length : Int)) = false := decide_eq_false (by omega)
      simp [this, hp, roR]
theorem w_sReadOrder (n : Int) (T : List UInt8) (hl : T.length ≤ 1048576) : g_sReadOrder (n, BA T) = some (roR (rdO n T), ()) := by
  obtain ⟨l0, l1, l2⟩ := q_le T
  show f_sReadOrder BIG _ = _
  have r0 : g_sl09Var (BA T, (0 : Int), false) = some ((q0 T).1, (BA T, ((q0 T).2.1 : Int), (q0 T).2.2)) := w_sl09Var T (0, false) (Nat.zero_le _) (by omega)
  have r1 : g_sl09One (BA T, ((q0 T).2.1 : Int), (q0 T).2.2) = some ((q1 T).1, (BA T, ((q1 T).2.1 : Int), (q1 T).2.2)) := w_sl09One T (q0 T).2 l0 (by omega)
  have r2 : g_sl09Var (BA T, ((q1 T).2.1 : Int), (q1 T).2.2) = some ((q2 T).1, (BA T, ((q2 T).2.1 : Int), (q2 T).2.2)) := w_sl09Var T (q1 T).2 l1 (by omega)
  have r3 : g_sl09ReadEdges (BA T, ((q2 T).2.1 : Int), (q2 T).2.2) = some ((q3 T (min (nm T (q2 T).2).1.toNat 100)).2, (BA T, ((q3 T (min (nm T (q2 T).2).1.toNat 100)).1.1 : Int), (q3 T (min (nm T (q2 T).2).1.toNat 100)).1.2)) := w_sl09ReadEdges T (q2 T).2 l2 (by omega)
  rw [e_sReadOrder, r0, Option.bind_some]
  simp only [r1, r2, r3, Option.bind_some]
  unfold rdO
  simp only
  generalize hK : (nm T (q2 T).2).1.toNat = K
  have hlen : (q3 T (min K 100)).2.length ≤ 1048576 := by
    have := edF_len T (min K 100) (nm T (q2 T).2).2 []
    have h2 : (q3 T (min K 100)).2.length ≤ 0 + min K 100 := this
    omega
  show (Option.bind (g_sOrderText (n, oQ T (min K 100))) fun r4 => Option.bind (bif (q3 T (min K 100)).1.2 then some true else bif !r4.1.2 then some true else some (!(r4.1.1.toList == (BA T).toList)) : Option Bool) fun x5 =>
    bif x5 then some (((0 : Int), (0 : Int), [], (0 : Int), false), ()) else some (((q0 T).1, (q1 T).1, (q3 T (min K 100)).2, (q2 T).1, true), ())) = _
  rw [w_sOrderText n _ hlen, Option.bind_some]
  by_cases hk : K ≤ 100
  · rw [show min K 100 = K from by omega]
    cases hb : (q3 T K).1.2 with
    | true => simp [roR]
    | false =>
      have hq := oQ_take hK.symm hb
      cases hO : ordB n (oQ T K) with
      | false => simp [roR]
      | true =>
        simp only [if_true, Bool.not_true, cond_false, BA_toList, Option.bind_some, true_and, and_true]
        by_cases hp : (q3 T K).1.1 = T.length
        · have : oT (oQ T K) = T := by rw [← hq.2.1, hp, List.take_length]
          rw [this, beq_self_eq_true, if_pos hp]
          rfl
        · have : ¬ oT (oQ T K) = T := by
            rw [← hq.2.1, take_full hq.2.2]; exact hp
          simp [this, hp, roR, beq_eq_false_iff_ne.2 this]
  · have hbig : ∀ M, 66 < M → (q3 T M).2.length = M → ordB n (oQ T M) = false := by
      intro M hM hl
      cases h : ordB n (oQ T M) with
      | false => rfl
      | true =>
        have := eOk_len (ordB_in h).2.2.2.2.2.2.2.2
        have h2 : (oQ T M).2.2.1 = (q3 T M).2 := rfl
        rw [h2, hl] at this
        omega
    have r1 : (bif (q3 T (min K 100)).1.2 then some true else bif !(if ordB n (oQ T (min K 100)) = true then (BA (oT (oQ T (min K 100))), true) else (BA [], false)).2 then some true else some (!((if ordB n (oQ T (min K 100)) = true then (BA (oT (oQ T (min K 100))), true) else (BA [], false)).1.toList == (BA T).toList)) : Option Bool) = some true := by
      cases hb : (q3 T (min K 100)).1.2 with
      | true => rfl
      | false =>
        obtain ⟨_, h2⟩ := edF_spec T (min K 100) (nm T (q2 T).2).2 [] (nm_le l2)
        obtain ⟨_, es, b2, b3, _⟩ := h2 hb
        have h3 : (q3 T (min K 100)).2.length = min K 100 := by
          show (edF T (min K 100) (nm T (q2 T).2).2 []).2.length = _
          rw [b2]; simpa using b3
        rw [hbig _ (by omega) h3]; rfl
    rw [r1]
    have r2 : ¬ ((q3 T K).1.2 = false ∧ (q3 T K).1.1 = T.length ∧ ordB n (oQ T K) = true) := by
      rintro ⟨hb, _, hO⟩
      have hq := oQ_take hK.symm hb
      rw [hbig K (by omega) hq.1] at hO
      cases hO
    rw [if_neg r2]
    rfl
def lbF (T : List UInt8) : Nat → St → List Int → St × List Int
  | 0, s, out => (s, out)
  | k + 1, s, out => lbF T k (on T s).2 (out ++ [(on T s).1])
def lbG (T : List UInt8) : Nat → St → List Int → St × List Int
  | 0, s, out => (s, out)
  | k + 1, s, out => if s.2 then (s, out) else lbG T k (on T s).2 (out ++ [(on T s).1])
theorem on_stick {T : List UInt8} {s : St} (h : s.2 = true) : (on T s).2.2 = true := by unfold on; rw [if_pos h]
theorem lbF_stick (T : List UInt8) : ∀ (k : Nat) (s : St) (out : List Int), s.2 = true → (lbF T k s out).1.2 = true
  | 0, s, out, h => h
  | k + 1, s, out, h => lbF_stick T k _ _ (on_stick h)
theorem lbG_of (T : List UInt8) : ∀ (k : Nat) (s : St) (out : List Int), ((lbF T k s out).1.2 = false → lbG T k s out = lbF T k s out) ∧ ((lbF T k s out).1.2 = true → (lbG T k s out).1.2 = true)
  | 0, s, out => ⟨fun _ => rfl, fun h => h⟩
  | k + 1, s, out => by
    cases hs : s.2 with
    | true =>
      have := lbF_stick T (k + 1) s out hs
      refine ⟨fun h => (by rw [this] at h; cases h), fun _ => ?_⟩
      unfold lbG
      rw [if_pos hs]; exact hs
    | false =>
      have := lbG_of T k (on T s).2 (out ++ [(on T s).1])
      have e : lbG T (k + 1) s out = lbG T k (on T s).2 (out ++ [(on T s).1]) := by
        show (if s.2 then _ else _) = _
        rw [if_neg (by simp [hs])]
      rw [e]
      exact this
theorem lbF_len (T : List UInt8) : ∀ (k : Nat) (s : St) (out : List Int), (lbF T k s out).2.length = out.length + k
  | 0, s, out => rfl
  | k + 1, s, out => by
    show (lbF T k _ _).2.length = _
    rw [lbF_len T k]; simp; omega
theorem lbG_len (T : List UInt8) : ∀ (k : Nat) (s : St) (out : List Int), (lbG T k s out).2.length ≤ out.length + k
  | 0, s, out => Nat.le_refl _
  | k + 1, s, out => by
    unfold lbG
    split
    · exact Nat.le_add_right _ _
    · have := lbG_len T k (on T s).2 (out ++ [(on T s).1])
      simp at this; omega
theorem lbF_le (T : List UInt8) : ∀ (k : Nat) (s : St) (out : List Int), s.1 ≤ T.length → (lbF T k s out).1.1 ≤ T.length
  | 0, s, out, h => h
  | k + 1, s, out, h => lbF_le T k _ _ (on_le h)
theorem lbF_spec (T : List UInt8) : ∀ (k : Nat) (s : St) (out : List Int), (lbF T k s out).1.2 = false → s.2 = false ∧ ∃ es, (lbF T k s out).2 = out ++ es ∧ es.length = k ∧ T.take (lbF T k s out).1.1 = T.take s.1 ++ es.map by8
  | 0, s, out, h => ⟨h, [], by simp [lbF]⟩
  | k + 1, s, out, h => by
    obtain ⟨b1, es, b2, b3, b4⟩ := lbF_spec T k (on T s).2 (out ++ [(on T s).1]) h
    have c1 := on_take b1
    refine ⟨on_bad b1, (on T s).1 :: es, ?_, by simp [b3], ?_⟩
    · show (lbF T k _ _).2 = _
      rw [b2]; simp
    · show T.take (lbF T k (on T s).2 (out ++ [(on T s).1])).1.1 = _
      rw [b4, c1.1]; simp
theorem lbF_fold (T : List UInt8) {α : Type} : ∀ (l : List α) (s : St × List Int), l.foldl (fun s _ => ((on T s.1).2, s.2 ++ [(on T s.1).1])) s = lbF T l.length s.1 s.2
  | [], s => rfl
  | _ :: l, s => by rw [List.foldl_cons, lbF_fold T l]; rfl
theorem lbLoop (T : List UInt8) {X B : Type} {F : (X → Option B) → X → Option B} (mk : St → List Int → Nat → X) (res : St → List Int → B) (K : Nat)
    (hF : ∀ self (s : St) (out : List Int) (k : Nat), s.1 ≤ T.length → out.length + (k + 1) ≤ K → F self (mk s out (k + 1)) = if s.2 then some (res s out) else self (mk (on T s).2 (out ++ [(on T s).1]) k))
    (hE : ∀ self (s : St) (out : List Int), F self (mk s out 0) = some (res s out)) :
    ∀ (k n : Nat) (s : St) (out : List Int), out.length + k ≤ K → k < n → s.1 ≤ T.length → it F n (mk s out k) = some (res (lbG T k s out).1 (lbG T k s out).2)
  | 0, n, s, out, hk, hn, hs => by
    obtain ⟨m, rfl⟩ : ∃ m, n = m + 1 := ⟨n - 1, by omega⟩
    exact hE _ _ _
  | k + 1, n, s, out, hk, hn, hs => by
    obtain ⟨m, rfl⟩ : ∃ m, n = m + 1 := ⟨n - 1, by omega⟩
    show F (it F m) _ = _
    rw [hF _ _ _ _ hs hk]
    unfold lbG
    split
    · rfl
    · exact lbLoop T mk res K hF hE k m _ _ (by simp; omega) (by omega) (on_le hs)
def q4 (T : List UInt8) (K : Nat) : St × List Ed := edF T K (nm T (q1 T).2).2 []
def q5 (T : List UInt8) (K N : Nat) : St × List Int := lbF T N (q4 T K).1 []
def aQ (T : List UInt8) (K : Nat) (L : List Int) : An := ((q0 T).1, decide ((q1 T).1 = 1), (q4 T K).2, L)
theorem by8_01 {b : Int} (h0 : 0 ≤ b) (h1 : b ≤ 255) : (∃ c, flT c = [by8 b]) ↔ b ≤ 1 := by
  constructor
  · rintro ⟨c, hc⟩
    have := congrArg (fun l : List UInt8 => (l.getD 0 9).toNat) hc
    obtain ⟨n, rfl⟩ : ∃ n : Nat, b = n := ⟨b.toNat, by omega⟩
    simp only [flT, List.getD_cons_zero] at this
    rw [by8_toNat (by omega)] at this
    cases c <;> simp at this <;> omega
  · intro h
    rcases (show b = 0 ∨ b = 1 by omega) with rfl | rfl
    · exact ⟨false, rfl⟩
    · exact ⟨true, rfl⟩
theorem flT_1 {b : Int} (h0 : 0 ≤ b) (h1 : b ≤ 1) : flT (decide (b = 1)) = [by8 b] := by
  rcases (show b = 0 ∨ b = 1 by omega) with rfl | rfl <;> rfl
theorem aQ_take {T : List UInt8} {K N : Nat} (hK : K = (nm T (q1 T).2).1.toNat) (h : (q5 T K N).1.2 = false) : (q4 T K).2.length = K ∧ (q5 T K N).2.length = N ∧ (0 ≤ (q1 T).1 ∧ (q1 T).1 ≤ 255) ∧
    T.take (q5 T K N).1.1 = ((vB (q0 T).1.toNat ++ [by8 (q1 T).1]) ++ eT (q4 T K).2) ++ (q5 T K N).2.map by8 ∧ (q5 T K N).1.1 ≤ T.length := by
  obtain ⟨l0, l1, l2⟩ := q_le T
  obtain ⟨a0, es, c2, c3, c4⟩ := lbF_spec T N (q4 T K).1 [] h
  obtain ⟨a1, a2, a3⟩ := ed_take l1 hK a0
  have a5 := nm_bad a1
  have b1 := on_take a5
  have a6 := on_bad a5
  have b0 := nm_take (Nat.zero_le _) a6
  have e0 : T.take (q0 T).2.1 = vB (q0 T).1.toNat := by have := b0.1; simp only [List.take_zero, List.nil_append] at this; exact this
  have e1 : T.take (q1 T).2.1 = vB (q0 T).1.toNat ++ [by8 (q1 T).1] := by rw [← e0]; exact b1.1
  refine ⟨a2, ?_, ⟨b1.2.1, b1.2.2.1⟩, ?_, lbF_le T N _ _ (edF_spec T K (nm T (q1 T).2).2 [] (nm_le l1)).1⟩
  · rw [show (q5 T K N).2.length = _ from lbF_len T N _ _]; simp
  · rw [← e1]
    have h5 : (q5 T K N).2 = es := by rw [← List.nil_append es]; exact c2
    rw [h5]
    show T.take (lbF T N (q4 T K).1 []).1.1 = _
    rw [c4]
    congr 1
/-- The answer that stands in a text. -/
def rdA (n : Int) (T : List UInt8) : Option An :=
  let K := (nm T (q1 T).2).1.toNat
  if inB n 1 12 = true ∧ (q5 T K n.toNat).1.2 = false ∧ (q5 T K n.toNat).1.1 = T.length ∧ (q1 T).1 ≤ 1 ∧ ansB n (aQ T K (q5 T K n.toNat).2) = true then some (aQ T K (q5 T K n.toNat).2) else none
theorem rdA_some {n : Int} {T : List UInt8} {a : An} (h : rdA n T = some a) : ansB n a = true ∧ aT a = T := by
  unfold rdA at h
  simp only at h
  split at h
  · rename_i hc
    cases h
    have := aQ_take rfl hc.2.1
    refine ⟨hc.2.2.2.2, ?_⟩
    conv => rhs; rw [← List.take_length (l := T), ← hc.2.2.1, this.2.2.2.1, ← flT_1 this.2.2.1.1 hc.2.2.2.1]
    rfl
  · cases h
def raR : Option An → Int × Bool × List Ed × List Int × Bool
  | some a => (a.1, a.2.1, a.2.2.1, a.2.2.2, true)
  | none => (0, false, [], [], false)
theorem w_iReadAnswer (n : Int) (T : List UInt8) (hl : T.length ≤ 1048576) : g_iReadAnswer (n, BA T) = some (raR (rdA n T), ()) := by
  obtain ⟨l0, l1, l2⟩ := q_le T
  have hm : maxLen = 9223372036854775807 := by decide
  show f_iReadAnswer BIG _ = _
  have r0 : g_ireader_num (BA T, (0 : Int), false) = some ((q0 T).1, (BA T, ((q0 T).2.1 : Int), (q0 T).2.2)) := w_ireader_num T (0, false) (Nat.zero_le _) (by omega)
  have r1 : g_ireader_one (BA T, ((q0 T).2.1 : Int), (q0 T).2.2) = some ((q1 T).1, (BA T, ((q1 T).2.1 : Int), (q1 T).2.2)) := w_ireader_one T (q0 T).2 l0 (by omega)
  have r3 : g_ireader_edges (BA T, ((q1 T).2.1 : Int), (q1 T).2.2) = some ((q4 T (nm T (q1 T).2).1.toNat).2, (BA T, ((q4 T (nm T (q1 T).2).1.toNat).1.1 : Int), (q4 T (nm T (q1 T).2).1.toNat).1.2)) := w_ireader_edges T (q1 T).2 l1 (by omega)
  rw [e_iReadAnswer, h_iin', Option.bind_some]
  unfold rdA
  cases hn : inB n 1 12 with
  | false => rfl
  | true =>
    rw [inB_t] at hn
    obtain ⟨N, rfl⟩ : ∃ N : Nat, n = N := ⟨n.toNat, by omega⟩
    simp only [Bool.not_true, cond_false, r0, r1, r3, Option.bind_some, Int.toNat_natCast]
    generalize hK : (nm T (q1 T).2).1.toNat = K
    have hle : (q4 T K).1.1 ≤ T.length := by
      have := (edF_spec T K (nm T (q1 T).2).2 [] (nm_le l1)).1
      exact this
    rw [foldG (List.range N) (by simp; omega) (fun (s : St × List Int) i => ((BA T, (s.1.1 : Int), s.1.2), ((q0 T).1, decide ((q1 T).1 = 1), (q4 T K).2, s.2), i)) (fun i s => s.1.1 ≤ T.length ∧ s.2.length = i)
      (fun s _ => ((on T s.1).2, s.2 ++ [(on T s.1).1])) (fun s => ((BA T, (s.1.1 : Int), s.1.2), ((q0 T).1, decide ((q1 T).1 = 1), (q4 T K).2, s.2))) (s0 := ((q4 T K).1, [])) ⟨hle, rfl⟩ (fun i s y _ h => ⟨on_le h.1, by simp [h.2]⟩)]
    · rw [lbF_fold, List.length_range]
      have he : ∀ p b, g_ireader_ends (BA T, p, b) = some (!b && decide (p = (T.length : Int)), (BA T, p, b)) := by
        intro p b
        show f_ireader_ends BIG _ = _
        rw [e_ireader_ends]
        cases b <;> rfl
      simp only [Option.bind_some, he]
      show (Option.bind (bif decide ((1 : Int) < (q1 T).1) then some true else bif !(!(q5 T K N).1.2 && decide (((q5 T K N).1.1 : Int) = (T.length : Int))) then some true else Option.bind (g_iAnswerOk ((N : Int), aQ T K (q5 T K N).2)) fun r9 => some !r9.1 : Option Bool) fun x10 =>
        bif x10 then some (((0 : Int), false, [], [], false), ()) else some (((q0 T).1, decide ((q1 T).1 = 1), (q4 T K).2, (q5 T K N).2, true), ())) = _
      by_cases hb1 : (q1 T).1 ≤ 1
      · rw [decide_eq_false (by omega), cond_false]
        cases hb : (q5 T K N).1.2 with
        | true => simp [raR]
        | false =>
          by_cases hp : (q5 T K N).1.1 = T.length
          · have hq := aQ_take hK.symm hb
            have hlen : (q4 T K).2.length ≤ 1048576 := by
              have h1 := congrArg List.length hq.2.2.2.1
              rw [List.length_take] at h1
              simp only [eT, List.length_append, flat2_len] at h1
              omega
            rw [h_iAnswerOk (N : Int) (aQ T K (q5 T K N).2) hlen (show (q5 T K N).2.length ≤ 1048576 by rw [hq.2.1]; omega)]
            simp only [hp, decide_true, Bool.not_false, Bool.and_self, Bool.not_true, cond_false, Option.bind_some, true_and, hb1]
            cases hO : ansB (N : Int) (aQ T K (q5 T K N).2) with
            | false => simp [raR]
            | true => simp only [and_self, if_true, Bool.not_true, cond_false]; rfl
          · have : decide (((q5 T K N).1.1 : Int) = (T.length : Int)) = false := decide_eq_false (by omega)
            simp [this, hp, raR]
      · rw [decide_eq_true (by omega)]
        simp [hb1, raR]
    · rintro self ⟨s, out⟩ i y hy ⟨h1, h2⟩
      have hi := (List.getElem?_eq_some_iff.1 hy).1
      rw [List.length_range] at hi
      simp only at h1 h2
      simp only [show ((i : Int) < (N : Int)) from by omega, decide_true, cond_true]
      rw [w_ireader_one T s h1 (by omega), Option.bind_some, decide_eq_true (by simp; omega), cond_true, wr1 (by omega)]
    · intro self s _
      simp
theorem w_sReadAnswer (n : Int) (T : List UInt8) (hl : T.length ≤ 1048576) : g_sReadAnswer (n, BA T) = some (raR (rdA n T), ()) := by
  obtain ⟨l0, l1, l2⟩ := q_le T
  have hm : maxLen = 9223372036854775807 := by decide
  show f_sReadAnswer BIG _ = _
  have r0 : g_sl09Var (BA T, (0 : Int), false) = some ((q0 T).1, (BA T, ((q0 T).2.1 : Int), (q0 T).2.2)) := w_sl09Var T (0, false) (Nat.zero_le _) (by omega)
  have r1 : g_sl09One (BA T, ((q0 T).2.1 : Int), (q0 T).2.2) = some ((q1 T).1, (BA T, ((q1 T).2.1 : Int), (q1 T).2.2)) := w_sl09One T (q0 T).2 l0 (by omega)
  have r3 : g_sl09ReadEdges (BA T, ((q1 T).2.1 : Int), (q1 T).2.2) = some ((q4 T (min (nm T (q1 T).2).1.toNat 100)).2, (BA T, ((q4 T (min (nm T (q1 T).2).1.toNat 100)).1.1 : Int), (q4 T (min (nm T (q1 T).2).1.toNat 100)).1.2)) := w_sl09ReadEdges T (q1 T).2 l1 (by omega)
  rw [e_sReadAnswer, r0, Option.bind_some]
  simp only [r1, r3, Option.bind_some]
  unfold rdA
  simp only
  generalize hK : (nm T (q1 T).2).1.toNat = K
  generalize hK' : min K 100 = K'
  generalize hM : min n.toNat 12 = M
  have hle : (q4 T K').1.1 ≤ T.length := by
    have := (edF_spec T K' (nm T (q1 T).2).2 [] (nm_le l1)).1
    exact this
  have L := lbLoop T (F := fun self4 x3 =>
    Option.bind (bif decide (x3.2.2 < n) then
      bif decide (x3.2.2 < (12 : Int)) then
       some !x3.1.2.2
      else some false
     else some false : Option (Bool)) fun x5 =>
    bif x5 then
     Option.bind (g_sl09One x3.1) fun r6 =>
     bif decide (x3.2.1.2.2.2.length + [r6.1].length ≤ 4294967296) then
      self4 (r6.2, (x3.2.1.1, x3.2.1.2.1, x3.2.1.2.2.1, x3.2.1.2.2.2 ++ [r6.1]), IntKind.wrap .i64 (x3.2.2 + (1 : Int)))
     else none
    else some (x3.1, x3.2.1)) (fun s out k => ((BA T, (s.1 : Int), s.2), ((q0 T).1, decide ((q1 T).1 = 1), (q4 T K').2, out), (M : Int) - (k : Int))) (fun s out => ((BA T, (s.1 : Int), s.2), ((q0 T).1, decide ((q1 T).1 = 1), (q4 T K').2, out))) M (by
    intro self s out k hs ho
    simp only [show (M : Int) - ((k + 1 : Nat) : Int) < n from by omega, show (M : Int) - ((k + 1 : Nat) : Int) < 12 from by omega, decide_true, cond_true, Option.bind_some]
    cases hb : s.2 with
    | true => rfl
    | false =>
      simp only [Bool.not_false, cond_true, Bool.false_eq_true, if_false]
      rw [← hb, w_sl09One T s hs (by omega), Option.bind_some, decide_eq_true (by simp; omega), cond_true, wr (by omega) (by omega), show (M : Int) - ((k + 1 : Nat) : Int) + 1 = (M : Int) - (k : Int) from by omega]) (by
    intro self s out
    simp only [Int.natCast_zero, Int.sub_zero]
    by_cases h : (M : Int) < n
    · rw [decide_eq_true h, cond_true, decide_eq_false (by omega)]; rfl
    · rw [decide_eq_false h]; rfl) M BIG (q4 T K').1 [] (by simp) (by simp [BIG]; omega) hle
  rw [show (M : Int) - (M : Int) = 0 from by omega] at L
  unfold loopT
  rw [L, Option.bind_some]
  have hlab := lbG_len T M (q4 T K').1 []
  have hed := edF_len T K' (nm T (q1 T).2).2 []
  have hed' : (q4 T K').2.length ≤ 100 := by
    have : (q4 T K').2.length ≤ 0 + K' := hed
    omega
  generalize hG : lbG T M (q4 T K').1 [] = G at hlab
  simp only [List.length_nil] at hlab
  show (Option.bind (g_sAnswerText (n, aQ T K' G.2)) fun r8 => Option.bind (bif G.1.2 then some true else bif !r8.1.2 then some true else some (!(r8.1.1.toList == (BA T).toList)) : Option Bool) fun x9 =>
    bif x9 then some (((0 : Int), false, [], [], false), ()) else some (((q0 T).1, decide ((q1 T).1 = 1), (q4 T K').2, G.2, true), ())) = _
  rw [w_sAnswerText n (aQ T K' G.2) (show (q4 T K').2.length ≤ 1048576 by omega) (show G.2.length ≤ 1048576 by omega), Option.bind_some]
  have fail : (G.1.2 = true ∨ ansB n (aQ T K' G.2) = false) → (Option.bind (bif G.1.2 then some true else bif !(if ansB n (aQ T K' G.2) = true then (BA (aT (aQ T K' G.2)), true) else (BA [], false)).2 then some true else some (!((if ansB n (aQ T K' G.2) = true then (BA (aT (aQ T K' G.2)), true) else (BA [], false)).1.toList == (BA T).toList)) : Option Bool) fun x9 =>
    bif x9 then some (((0 : Int), false, [], [], false), ()) else some (((q0 T).1, decide ((q1 T).1 = 1), (q4 T K').2, G.2, true), ())) = some (raR none, ()) := by
    rintro (h | h)
    · rw [h]; rfl
    · rw [h]
      cases G.1.2 <;> rfl
  cases hn : inB n 1 12 with
  | false =>
    rw [fail (.inr (by unfold ansB; rw [hn, Bool.false_and])), if_neg (by simp)]
  | true =>
    rw [inB_t] at hn
    obtain ⟨N, rfl⟩ : ∃ N : Nat, n = N := ⟨n.toNat, by omega⟩
    rw [Int.toNat_natCast] at hM ⊢
    have hMN : M = N := by omega
    subst hMN
    have hbig : ∀ L', 66 < (q4 T K').2.length → ansB (M : Int) (aQ T K' L') = false := by
      intro L' h
      cases hO : ansB (M : Int) (aQ T K' L') with
      | false => rfl
      | true =>
        have := eOk_len (ansB_in hO).2.2.2.2.1
        have h2 : (aQ T K' L').2.2.1 = (q4 T K').2 := rfl
        rw [h2] at this
        omega
    obtain ⟨g1, g2⟩ := lbG_of T M (q4 T K').1 []
    by_cases hk : K ≤ 100
    · have : K' = K := by omega
      subst this
      cases hb : (q5 T K' M).1.2 with
      | true =>
        have hGb : G.1.2 = true := by rw [← hG]; exact g2 hb
        rw [fail (.inl hGb), if_neg (by simp)]
      | false =>
        have hGe : G = q5 T K' M := by rw [← hG]; exact g1 hb
        have hq := aQ_take hK.symm hb
        cases hO : ansB (M : Int) (aQ T K' (q5 T K' M).2) with
        | false => rw [fail (.inr (by rw [hGe]; exact hO)), if_neg (by simp)]
        | true =>
          have e1 : (aT (aQ T K' (q5 T K' M).2) = T) ↔ ((q5 T K' M).1.1 = T.length ∧ (q1 T).1 ≤ 1) := by
            constructor
            · intro h
              have hlen := congrArg List.length h
              have hlen2 := congrArg List.length hq.2.2.2.1
              rw [List.length_take] at hlen2
              have hlen3 : (aT (aQ T K' (q5 T K' M).2)).length = (((vB (q0 T).1.toNat ++ [by8 (q1 T).1]) ++ eT (q4 T K').2) ++ (q5 T K' M).2.map by8).length := by
                simp [aT, aQ, flT]
              have hp : (q5 T K' M).1.1 = T.length := by omega
              refine ⟨hp, (by8_01 hq.2.2.1.1 hq.2.2.1.2).1 ⟨decide ((q1 T).1 = 1), ?_⟩⟩
              have h4 := hq.2.2.2.1
              rw [hp, List.take_length] at h4
              have h5 : ((vB (q0 T).1.toNat ++ flT (decide ((q1 T).1 = 1))) ++ eT (q4 T K').2) ++ (q5 T K' M).2.map by8 = ((vB (q0 T).1.toNat ++ [by8 (q1 T).1]) ++ eT (q4 T K').2) ++ (q5 T K' M).2.map by8 := h.trans h4
              exact List.append_cancel_left (List.append_cancel_right (List.append_cancel_right h5))
            · rintro ⟨hp, h1⟩
              have h4 := hq.2.2.2.1
              rw [hp, List.take_length, ← flT_1 hq.2.2.1.1 h1] at h4
              exact h4.symm
          rw [hGe, hb, hO]
          simp only [cond_false, if_true, Bool.not_true, BA_toList, Option.bind_some]
          by_cases hT : aT (aQ T K' (q5 T K' M).2) = T
          · have := e1.1 hT
            rw [hT, beq_self_eq_true, if_pos (by simp [this.1, this.2])]
            rfl
          · rw [beq_eq_false_iff_ne.2 hT, if_neg (fun h => hT (e1.2 ⟨h.2.2.1, h.2.2.2.1⟩))]
            rfl
    · have hK100 : K' = 100 := by omega
      subst hK100
      have e2 : ¬ (true = true ∧ (q5 T K M).1.2 = false ∧ (q5 T K M).1.1 = T.length ∧ (q1 T).1 ≤ 1 ∧ ansB (M : Int) (aQ T K (q5 T K M).2) = true) := by
        rintro ⟨_, hb, _, _, hO⟩
        have hq := aQ_take hK.symm hb
        have := eOk_len (ansB_in hO).2.2.2.2.1
        have h2 : (aQ T K (q5 T K M).2).2.2.1 = (q4 T K).2 := rfl
        rw [h2, hq.1] at this
        omega
      rw [if_neg e2]
      apply fail
      cases hGb : G.1.2 with
      | true => exact .inl rfl
      | false =>
        right
        apply hbig
        have hb5 : (lbF T M (q4 T 100).1 []).1.2 = false := by
          cases h : (lbF T M (q4 T 100).1 []).1.2 with
          | false => rfl
          | true => rw [← hG, g2 h] at hGb; cases hGb
        obtain ⟨hb4, _⟩ := lbF_spec T M (q4 T 100).1 [] hb5
        obtain ⟨_, h2⟩ := edF_spec T 100 (nm T (q1 T).2).2 [] (nm_le l1)
        obtain ⟨_, es, b2, b3, _⟩ := h2 hb4
        show 66 < (edF T 100 (nm T (q1 T).2).2 []).2.length
        rw [b2]; simp [b3]
theorem h_sl05SameInts (a b : List Int) (ha : a.length ≤ maxLen) : g_sl05SameInts (a, b) = some (decide (a = b), ()) := by
  show f_sl05SameInts BIG _ = _
  rw [e_sl05SameInts]
  by_cases hl : a.length = b.length
  · rw [decide_eq_true (by omega), Bool.not_true, cond_false, eqLoop a b ha hl false]
    · by_cases h : a = b <;> simp [h]
    · intro self i x y hx hy
      have hi := (List.getElem?_eq_some_iff.1 hx).1
      simp only [show ((i : Int) < (a.length : Int)) from by omega, decide_true, cond_true]
      rw [bnd_nat hi, hx, Option.bind_some, bnd_nat (by omega), hy, Option.bind_some, wr1 (by omega)]
      by_cases h1 : x = y <;> simp [h1]
    · intro self
      simp
  · rw [decide_eq_false (by omega), Bool.not_false, cond_true, decide_eq_false (fun h => hl (by rw [h]))]
theorem gD {α : Type} {l : List α} {i : Nat} {y d : α} (h : l[i]? = some y) : l.getD i d = y := by rw [List.getD_eq_getElem?_getD, h]; rfl
theorem w_icopyInts (l : List Int) (h : l.length ≤ 1048576) : g_icopyInts l = some (l, ()) := by
  show f_icopyInts BIG _ = _
  rw [e_icopyInts, decide_eq_true (by omega)]; rfl
/-- A head that is right, and what is known of it. -/
structure HdF (x0 : Int) (x1 : List Int) (x2 : List Ed) (x3 : List (List Int)) (x4 : List Int) (x14 : List Sd) : Prop where
  n : 1 ≤ x0 ∧ x0 ≤ 12
  k : 1 ≤ x3.length ∧ x3.length ≤ 3
  nums : x4.length = x3.length
  own : (x1.length : Int) = x0
  cuts : eOk x0 x2 = true
  said : x14.length ≤ 80
  o1 : ∀ i, i < x1.length → 1 ≤ x1.getD i 0 ∧ x1.getD i 0 ≤ x3.length
  o3 : ∀ i, i < x3.length → lbOk x0 (x3.getD i []) = true ∧ 0 ≤ x4.getD i 0 ∧ x4.getD i 0 ≤ 99991
section
variable {x0 : Int} {x1 : List Int} {x2 : List Ed} {x3 : List (List Int)} {x4 : List Int} {x14 : List Sd}
theorem HdF.num (h : HdF x0 x1 x2 x3 x4 x14) {sh : Int} (h1 : 1 ≤ sh) (h2 : sh ≤ x3.length) : IntKind.wrap .i64 (sh - 1) = sh - 1 ∧ 0 ≤ sh - 1 ∧ sh - 1 < x4.length ∧ x4[(sh - 1).toNat]? = some (x4.getD (sh - 1).toNat 0) ∧ IntKind.wrap .i64 (x4.getD (sh - 1).toNat 0 + 1) = x4.getD (sh - 1).toNat 0 + 1 := by
  have hk := h.k
  have hn := h.nums
  have h3 := h.o3 (sh - 1).toNat (by omega)
  exact ⟨wr (by omega) (by omega), by omega, by omega, getD_at (by omega), wr (by omega) (by omega)⟩
theorem HdF.at (h : HdF x0 x1 x2 x3 x4 x14) {v : Int} (h1 : 0 ≤ v) (h2 : v ≤ x0 - 1) : v < x1.length ∧ x1[v.toNat]? = some (x1.getD v.toNat 0) ∧ 1 ≤ x1.getD v.toNat 0 ∧ x1.getD v.toNat 0 ≤ x3.length := by
  have ho := h.own
  have := h.o1 v.toNat (by omega)
  exact ⟨by omega, getD_at (by omega), this.1, this.2⟩
end
theorem loop_bind {X B C : Type} {F : (X → Option B) → X → Option B} (I : X → Prop) (μ : X → Nat) (Q : X → B → Prop) (P : Option C → Prop) {x : X} {k : B → Option C} (hx : μ x < BIG) (hi : I x)
    (h : ∀ self x, I x → (∀ y, I y → μ y < μ x → ∃ b, self y = some b ∧ Q y b) → ∃ b, F self x = some b ∧ Q x b) (hk : ∀ b, Q x b → P (k b)) : P (Option.bind (loopT BIG F x) k) := by
  obtain ⟨b, h1, h2⟩ := loop_rel (F := F) I μ Q h hx hi
  rw [h1]
  exact hk b h2
theorem h_lsameInts (a b : List Int) (ha : a.length ≤ maxLen) : g_lsameInts (a, b) = some (decide (a = b), ()) := by
  rw [← h_sl05SameInts a b ha]
  show f_lsameInts BIG _ = f_sl05SameInts BIG _
  rw [e_lsameInts, e_sl05SameInts]
  all_goals rfl
inductive FT where
  | nil
  | nd (v : Int) (c s : FT)
def FT.vs : FT → List Int
  | .nil => []
  | .nd v c s => v :: (c.vs ++ s.vs)
def FT.sg : FT → Int → List Int
  | .nil, _ => []
  | .nd v c s, r => v :: (c.sg v ++ r :: s.sg r)
def FT.app : FT → FT → FT
  | .nil, g => g
  | .nd v c s, g => .nd v c (s.app g)
def tr (v : Int) (c : FT) : List Int := v :: c.sg v
theorem sg_app (r : Int) (g : FT) : ∀ f : FT, (f.app g).sg r = f.sg r ++ g.sg r
  | .nil => rfl
  | .nd v c s => by
    have := sg_app r g s
    simp [FT.app, FT.sg, this]
theorem vs_app (g : FT) : ∀ f : FT, (f.app g).vs = f.vs ++ g.vs
  | .nil => rfl
  | .nd v c s => by
    have := vs_app g s
    simp [FT.app, FT.vs, this]
theorem sg_len : ∀ (f : FT) (r : Int), (f.sg r).length = 2 * f.vs.length
  | .nil, _ => rfl
  | .nd v c s, r => by
    have := sg_len c v
    have := sg_len s r
    simp only [FT.sg, FT.vs, List.length_cons, List.length_append]; omega
theorem sg_last : ∀ (f : FT) (r : Int), f.sg r = [] ∨ ∃ L, f.sg r = L ++ [r]
  | .nil, _ => .inl rfl
  | .nd v c s, r => by
    right
    rcases sg_last s r with h | ⟨L, h⟩
    · exact ⟨v :: c.sg v, by simp [FT.sg, h]⟩
    · exact ⟨v :: (c.sg v ++ r :: L), by simp [FT.sg, h]⟩
theorem tr_last (v : Int) (c : FT) : ∃ L, tr v c = L ++ [v] := by
  rcases sg_last c v with h | ⟨L, h⟩
  · exact ⟨[], by simp [tr, h]⟩
  · exact ⟨v :: L, by simp [tr, h]⟩
theorem tr_len (v : Int) (c : FT) : (tr v c).length = 2 * c.vs.length + 1 := by
  simp [tr, sg_len]
theorem sg_mem : ∀ (f : FT) (r x : Int), x ∈ f.sg r ↔ x ∈ f.vs ∨ (x = r ∧ f.vs ≠ [])
  | .nil, r, x => by simp [FT.sg, FT.vs]
  | .nd v c s, r, x => by
    have h1 := sg_mem c v x
    have h2 := sg_mem s r x
    simp only [FT.sg, FT.vs, List.mem_cons, List.mem_append, h1, h2]
    constructor
    · rintro (h | (h | ⟨h, _⟩) | h | h | ⟨h, _⟩)
      · exact .inl (.inl h)
      · exact .inl (.inr (.inl h))
      · exact .inl (.inl h)
      · exact .inr ⟨h, by simp⟩
      · exact .inl (.inr (.inr h))
      · exact .inr ⟨h, by simp⟩
    · rintro ((h | h | h) | ⟨h, _⟩)
      · exact .inl h
      · exact .inr (.inl (.inl h))
      · exact .inr (.inr (.inr (.inl h)))
      · exact .inr (.inr (.inl h))
theorem tr_mem (v : Int) (c : FT) (x : Int) : x ∈ tr v c ↔ x ∈ v :: c.vs := by
  simp only [tr, List.mem_cons, sg_mem]
  constructor
  · rintro (h | h | ⟨h, _⟩)
    · exact .inl h
    · exact .inr h
    · exact .inl h
  · rintro (h | h)
    · exact .inl h
    · exact .inr (.inl h)
/-- A right tour. -/
structure TrOk (v : Int) (c : FT) : Prop where
  nd : (v :: c.vs).Nodup
  rg : ∀ x, x ∈ v :: c.vs → 0 ≤ x ∧ x ≤ 11
theorem nodup_le : ∀ (n : Nat) (l : List Int), l.Nodup → (∀ x, x ∈ l → 0 ≤ x ∧ x < n) → l.length ≤ n
  | 0, l, _, h => by
    cases l with
    | nil => simp
    | cons x l => have := h x (List.mem_cons_self ..); omega
  | n + 1, l, hn, h => by
    have h1 := nodup_le n (l.erase (n : Int)) (hn.erase _) (fun x hx => by
      have h2 := (hn.mem_erase_iff).1 hx
      have := h x h2.2
      have := h2.1
      omega)
    have h2 := List.length_erase (a := (n : Int)) (l := l)
    split at h2
    · rw [h2] at h1; omega
    · rw [h2] at h1; omega
theorem TrOk.len {v : Int} {c : FT} (h : TrOk v c) : c.vs.length ≤ 11 := by
  have := nodup_le 12 (v :: c.vs) h.nd (fun x hx => by have := h.rg x hx; omega)
  simp only [List.length_cons] at this
  omega
/-- A loop that looks whether there is one. -/
theorem hiLoop {α B : Type} (a : List α) (hl : a.length < 18446744073709551616) (p : α → Bool) (b : B) {F : (Int → Option (Unit ⊕ B)) → Int → Option (Unit ⊕ B)}
    (hF : ∀ self (i : Nat) y, a[i]? = some y → F self (i : Int) = if p y then some (.inr b) else self ((i + 1 : Nat) : Int))
    (hE : ∀ self, F self (a.length : Int) = some (.inl ())) : loopT BIG F 0 = some (if a.any p = true then .inr b else .inl ()) := by
  refine loop_eq (fun (x : Int) => ∃ i : Nat, x = (i : Int) ∧ i ≤ a.length ∧ ∀ j (hj : j < a.length), j < i → p a[j] = false) (fun x => a.length - x.toNat) (fun _ => _) (fun self x ⟨i, h1, h2, h3⟩ hs => ?_) (n := BIG) (x := 0) (by simp; exact hl) ⟨0, rfl, by simp, fun j _ hj => by omega⟩
  subst h1
  by_cases hi : i < a.length
  · rw [hF self i a[i] (List.getElem?_eq_getElem hi)]
    cases hp : p a[i] with
    | true => rw [if_pos rfl, if_pos (List.any_eq_true.2 ⟨a[i], List.getElem_mem hi, hp⟩)]
    | false =>
      rw [if_neg (by simp)]
      refine hs _ ⟨i + 1, rfl, hi, fun j hj hji => ?_⟩ (by simp; omega)
      by_cases hij : j = i
      · subst hij; exact hp
      · exact h3 j hj (by omega)
  · have : i = a.length := by omega
    subst this
    rw [hE, if_neg]
    intro h
    obtain ⟨y, hy, hp⟩ := List.any_eq_true.1 h
    obtain ⟨j, hj, rfl⟩ := List.getElem_of_mem hy
    rw [h3 j hj hj] at hp; cases hp
inductive De (pa : Int → Int → Prop) (v : Int) : Int → Prop
  | refl : De pa v v
  | step {a x : Int} : De pa v a → pa a x → De pa v x
/-- Edges that are trees: who is whose parent. -/
structure Fo (n : Nat) (es : List Ed) (pa : Int → Int → Prop) (rk : Int → Nat) : Prop where
  rg : ∀ {a b}, pa a b → (0 ≤ a ∧ a < n) ∧ (0 ≤ b ∧ b < n)
  ad : ∀ u v, ((if v < u then (v, u) else (u, v)) ∈ es) ↔ (pa u v ∨ pa v u)
  un : ∀ {a a' b}, pa a b → pa a' b → a = a'
  up : ∀ {a b}, pa a b → rk a < rk b
section
variable {n : Nat} {es : List Ed} {pa : Int → Int → Prop} {rk : Int → Nat} (F : Fo n es pa rk)
include F
theorem Fo.rk_le {v x : Int} (h : De pa v x) : rk v ≤ rk x := by
  induction h with
  | refl => exact Nat.le_refl _
  | step _ h2 ih => have := F.up h2; omega
omit F in
theorem De.trans {u v x : Int} (h : De pa u v) (h2 : De pa v x) : De pa u x := by
  induction h2 with
  | refl => exact h
  | step _ h2 ih => exact .step ih h2
theorem Fo.lin {u w x : Int} (h : De pa u x) : De pa w x → De pa u w ∨ De pa w u := by
  induction h with
  | refl => exact fun h => .inr h
  | step h1 h2 ih =>
    intro hw
    cases hw with
    | refl => exact .inl (.step h1 h2)
    | step g1 g2 =>
      have := F.un h2 g2
      subst this
      exact ih g1
theorem Fo.kids {v u u' x : Int} (h : pa v u) (h' : pa v u') (g : De pa u x) (g' : De pa u' x) : u = u' := by
  have key : ∀ {u u' : Int}, pa v u → pa v u' → De pa u u' → u = u' := by
    intro u u' h h' hd
    cases hd with
    | refl => rfl
    | step g1 g2 =>
      have := F.un h' g2
      subst this
      have := F.rk_le g1
      have := F.up h
      omega
  rcases F.lin g g' with hd | hd
  · exact key h h' hd
  · exact (key h' h hd).symm
/-- What hangs on a vertex but for where it is come from. -/
def Br (pa : Int → Int → Prop) (v fr x : Int) : Prop := fr = -1 ∨ (pa fr v ∧ De pa v x) ∨ (pa v fr ∧ ¬ De pa fr x)
def Nb (pa : Int → Int → Prop) (v fr u : Int) : Prop := u ≠ fr ∧ (pa u v ∨ pa v u)
theorem Fo.irr {v : Int} (h : pa v v) : False := by have := F.up h; omega
theorem Fo.asy {u v : Int} (h : pa u v) (h' : pa v u) : False := by
  have := F.up h
  have := F.up h'
  omega
theorem Fo.br_self {v fr : Int} (h : fr = -1 ∨ pa fr v ∨ pa v fr) : Br pa v fr v := by
  rcases h with h | h | h
  · exact .inl h
  · exact .inr (.inl ⟨h, .refl⟩)
  · refine .inr (.inr ⟨h, fun hd => ?_⟩)
    have := F.rk_le hd
    have := F.up h
    omega
theorem Fo.br_kid {v u x : Int} (h : pa v u) : Br pa u v x ↔ De pa u x := by
  constructor
  · rintro (h1 | ⟨_, h2⟩ | ⟨h1, _⟩)
    · have := (F.rg h).1; omega
    · exact h2
    · exact (F.asy h h1).elim
  · exact fun h2 => .inr (.inl ⟨h, h2⟩)
theorem Fo.br_up {v u x : Int} (h : pa u v) : Br pa u v x ↔ ¬ De pa v x := by
  constructor
  · rintro (h1 | ⟨h1, _⟩ | ⟨_, h2⟩)
    · have := (F.rg h).2; omega
    · exact (F.asy h h1).elim
    · exact h2
  · exact fun h2 => .inr (.inr ⟨h, h2⟩)
theorem Fo.br_sub {v fr u x : Int} (hf : fr = -1 ∨ pa fr v ∨ pa v fr) (hu : Nb pa v fr u) (h : Br pa u v x) : Br pa v fr x ∧ x ≠ v := by
  obtain ⟨hne, hu | hu⟩ := hu
  · rw [F.br_up hu] at h
    refine ⟨?_, fun he => h (he ▸ .refl)⟩
    rcases hf with hf | hf | hf
    · exact .inl hf
    · exact absurd (F.un hu hf) hne
    · exact .inr (.inr ⟨hf, fun hd => h ((De.step .refl hf).trans hd)⟩)
  · rw [F.br_kid hu] at h
    refine ⟨?_, fun he => ?_⟩
    · rcases hf with hf | hf | hf
      · exact .inl hf
      · exact .inr (.inl ⟨hf, (De.step .refl hu).trans h⟩)
      · exact .inr (.inr ⟨hf, fun hd => hne (F.kids hu hf h hd)⟩)
    · subst he
      have := F.rk_le h
      have := F.up hu
      omega
theorem Fo.br_dis {v fr u u' x : Int} (hu : Nb pa v fr u) (hu' : Nb pa v fr u') (h : Br pa u v x) (h' : Br pa u' v x) : u = u' := by
  obtain ⟨_, hu | hu⟩ := hu
  · obtain ⟨_, hu' | hu'⟩ := hu'
    · exact F.un hu hu'
    · rw [F.br_up hu] at h
      rw [F.br_kid hu'] at h'
      exact absurd ((De.step .refl hu').trans h') h
  · obtain ⟨_, hu' | hu'⟩ := hu'
    · rw [F.br_kid hu] at h
      rw [F.br_up hu'] at h'
      exact absurd ((De.step .refl hu).trans h) h'
    · rw [F.br_kid hu] at h
      rw [F.br_kid hu'] at h'
      exact F.kids hu hu' h h'
/-- What a walk makes. -/
def WkP (n : Nat) (pa : Int → Int → Prop) (v fr : Int) (seen : List Bool) (f : FT) (seen' : List Bool) : Prop :=
  seen'.length = n ∧ (v :: f.vs).Nodup ∧ (∀ x, x ∈ v :: f.vs → (0 ≤ x ∧ x < n) ∧ Br pa v fr x) ∧ ∀ x : Nat, x < n → (seen'.getD x false = true ↔ seen.getD x false = true ∨ (x : Int) ∈ v :: f.vs)
omit F in
theorem getD_set_b {l : List Bool} {i j : Nat} (hi : i < l.length) : (l.set i true).getD j false = true ↔ l.getD j false = true ∨ j = i := by
  by_cases h : i = j
  · subst h
    rw [gD (List.getElem?_set_self hi)]
    simp
  · simp only [List.getD_eq_getElem?_getD, List.getElem?_set_ne h]
    constructor
    · exact .inl
    · rintro (h' | h')
      · exact h'
      · exact absurd h'.symm h
end
structure TreeEs (n : Int) (es : List Ed) : Prop where
  rg : ∀ e, e ∈ es → 0 ≤ e.1 ∧ e.1 < e.2 ∧ e.2 < n
  un : ∀ e e', e ∈ es → e' ∈ es → e.2 = e'.2 → e.1 = e'.1
theorem TreeEs.fo {n : Nat} {es : List Ed} (h : TreeEs n es) : Fo n es (fun a b => (a, b) ∈ es) Int.toNat where
  rg := fun {a b} hab => by
    have := h.rg _ hab
    simp only at this
    omega
  ad := fun u v => by
    by_cases hvu : v < u
    · rw [if_pos hvu]
      constructor
      · exact .inr
      · rintro (h1 | h1)
        · have := h.rg _ h1
          simp only at this; omega
        · exact h1
    · rw [if_neg hvu]
      constructor
      · exact .inl
      · rintro (h1 | h1)
        · exact h1
        · have := h.rg _ h1
          simp only at this; omega
  un := fun {a a' b} h1 h2 => h.un _ _ h1 h2 rfl
  up := fun {a b} hab => by
    have := h.rg _ hab
    simp only at this
    omega
theorem TreeEs.ed {n : Nat} {es : List Ed} (h : TreeEs n es) (h1 : 1 ≤ n) (h2 : n ≤ 12) : ∀ e, e ∈ es → edB n e = true := by
  intro e he
  have := h.rg e he
  unfold edB
  simp only [Bool.and_eq_true, inB_t, decide_eq_true_eq]
  omega
theorem w_iwithS (l : List Int) (x : Int) (hl : l.length ≤ 1000000) (hso : l.Pairwise (· < ·)) : ∃ l', g_iwith (l, x) = some (l', ()) ∧ (∀ y, y ∈ l' ↔ y = x ∨ y ∈ l) ∧ l'.length ≤ l.length + 1 ∧ l'.Pairwise (· < ·) := by
  have hm : maxLen = 9223372036854775807 := by decide
  have e : g_iwith (l, x) = f_iwith BIG (l, x) := rfl
  rw [e, e_iwith]
  refine loop_bind (P := fun o => ∃ l' : List Int, o = some (l', ()) ∧ (∀ y, y ∈ l' ↔ y = x ∨ y ∈ l) ∧ l'.length ≤ l.length + 1 ∧ l'.Pairwise (· < ·)) (fun (j : Int) => ∃ i : Nat, j = (i : Int) ∧ i ≤ l.length ∧ ∀ y, y ∈ l.take i → y < x) (fun j => l.length - j.toNat) (fun _ (b : Int) => ∃ i : Nat, b = (i : Int) ∧ i ≤ l.length ∧ (∀ y, y ∈ l.take i → y < x) ∧ ∀ (hi : i < l.length), x ≤ l[i]) (by simp [BIG]; omega) ⟨0, rfl, by omega, by simp⟩ (fun self j ⟨i, h1, h2, h3⟩ hs => ?_) (fun b ⟨i, h1, h2, h3, h4⟩ => ?_)
  · subst h1
    by_cases hi : i < l.length
    · simp only [show ((i : Int) < (l.length : Int)) from by omega, decide_true, cond_true]
      rw [bnd_nat hi, List.getElem?_eq_getElem hi, Option.bind_some, Option.bind_some, wr1 (by omega)]
      by_cases hlx : l[i] < x
      · rw [decide_eq_true hlx]
        refine hs _ ⟨i + 1, rfl, hi, fun y hy => ?_⟩ (by simp; omega)
        rw [List.take_succ_eq_append_getElem hi, List.mem_append, List.mem_singleton] at hy
        rcases hy with hy | rfl
        · exact h3 y hy
        · exact hlx
      · rw [decide_eq_false hlx]
        exact ⟨_, rfl, i, rfl, h2, h3, fun _ => by omega⟩
    · simp only [show ¬ ((i : Int) < (l.length : Int)) from by omega, decide_false, cond_false, Option.bind_some]
      exact ⟨_, rfl, i, rfl, h2, h3, fun hi' => absurd hi' hi⟩
  · subst h1
    have fin : (∀ hi : i < l.length, x < l[i]) → ∃ l', (bif decide (0 ≤ (i : Int)) then
   bif decide (0 ≤ (Int.toNat (i : Int)) ∧ (Int.toNat (i : Int)) ≤ l.length) then
    Option.bind (g_icopyInts (List.take ((Int.toNat (i : Int)) - 0) (List.drop 0 l))) fun r9 =>
    bif decide (r9.1.length + [x].length ≤ 4294967296) then
     bif decide (0 ≤ (i : Int)) then
      bif decide ((Int.toNat (i : Int)) ≤ l.length ∧ l.length ≤ l.length) then
       bif decide ((r9.1 ++ [x]).length + (List.take (l.length - (Int.toNat (i : Int))) (List.drop (Int.toNat (i : Int)) l)).length ≤ 4294967296) then
        some ((r9.1 ++ [x]) ++ (List.take (l.length - (Int.toNat (i : Int))) (List.drop (Int.toNat (i : Int)) l)), ())
       else none
      else none
     else none
    else none
   else none
  else none) = some (l', ()) ∧ (∀ y, y ∈ l' ↔ y = x ∨ y ∈ l) ∧ l'.length ≤ l.length + 1 ∧ l'.Pairwise (· < ·) := by
      intro hlt
      have e2 : List.take (l.length - (Int.toNat (i : Int))) (List.drop (Int.toNat (i : Int)) l) = l.drop i := by rw [Int.toNat_natCast]; exact List.take_of_length_le (by simp)
      have e3 : List.take ((Int.toNat (i : Int)) - 0) (List.drop 0 l) = l.take i := by simp
      have c1 : (l.take i).length ≤ 1048576 := by rw [List.length_take]; omega
      have c2 : decide ((l.take i).length + [x].length ≤ 4294967296) = true := decide_eq_true (by rw [List.length_take, List.length_singleton]; omega)
      have c3 : decide ((l.take i ++ [x]).length + (l.drop i).length ≤ 4294967296) = true := decide_eq_true (by rw [List.length_append, List.length_take, List.length_drop, List.length_singleton]; omega)
      have c4 : decide ((0 : Int) ≤ (i : Int)) = true := decide_eq_true (by omega)
      have c5 : decide (0 ≤ Int.toNat (i : Int) ∧ Int.toNat (i : Int) ≤ l.length) = true := decide_eq_true (by omega)
      have c6 : decide (Int.toNat (i : Int) ≤ l.length ∧ l.length ≤ l.length) = true := decide_eq_true (by omega)
      rw [e2, e3, c4, c5, c6, w_icopyInts _ c1]
      simp only [cond_true, Option.bind_some]
      rw [c2, c3]
      refine ⟨_, rfl, fun y => ?_, ?_, ?_⟩
      · have ht : y ∈ l ↔ y ∈ l.take i ∨ y ∈ l.drop i := by
          conv => lhs; rw [← List.take_append_drop i l]
          exact List.mem_append
        rw [List.mem_append, List.mem_append, List.mem_singleton, ht]
        constructor
        · rintro ((h | h) | h)
          · exact .inr (.inl h)
          · exact .inl h
          · exact .inr (.inr h)
        · rintro (h | h | h)
          · exact .inl (.inr h)
          · exact .inl (.inl h)
          · exact .inr h
      · simp only [List.length_append, List.length_take, List.length_drop, List.length_cons, List.length_nil]; omega
      · have hbig : ∀ y, y ∈ l.drop i → x < y := by
          intro y hy
          by_cases hi : i < l.length
          · rw [List.drop_eq_getElem_cons hi, List.mem_cons] at hy
            have h5 := hlt hi
            rcases hy with rfl | hy
            · exact h5
            · have h6 : (l.drop i).Pairwise (· < ·) := hso.sublist (List.drop_sublist _ _)
              rw [List.drop_eq_getElem_cons hi, List.pairwise_cons] at h6
              have := h6.1 y hy
              omega
          · rw [List.drop_eq_nil_of_le (by omega)] at hy; cases hy
        rw [List.pairwise_append, List.pairwise_append]
        refine ⟨⟨hso.sublist (List.take_sublist _ _), by simp, fun a ha b hb => ?_⟩, hso.sublist (List.drop_sublist _ _), fun a ha b hb => ?_⟩
        · rw [List.mem_singleton] at hb; subst hb; exact h3 a ha
        · rw [List.mem_append, List.mem_singleton] at ha
          have := hbig b hb
          rcases ha with ha | rfl
          · have := h3 a ha; omega
          · exact this
    by_cases hi : i < l.length
    · simp only [show ((i : Int) < (l.length : Int)) from by omega, decide_true, cond_true]
      rw [bnd_nat hi, List.getElem?_eq_getElem hi, Option.bind_some, Option.bind_some]
      by_cases hx : l[i] = x
      · rw [decide_eq_true hx, cond_true]
        refine ⟨l, rfl, fun y => ⟨fun h => .inr h, fun h => ?_⟩, by omega, hso⟩
        rcases h with rfl | h
        · rw [← hx]; exact List.getElem_mem hi
        · exact h
      · rw [decide_eq_false hx, cond_false]; exact fin (fun hi => by have := h4 hi; omega)
    · simp only [show ¬ ((i : Int) < (l.length : Int)) from by omega, decide_false, cond_false, Option.bind_some]
      exact fin (fun hi' => absurd hi' hi)
theorem sorted_eq : ∀ {a b : List Int}, a.Pairwise (· < ·) → b.Pairwise (· < ·) → (∀ x, x ∈ a ↔ x ∈ b) → a = b
  | [], [], _, _, _ => rfl
  | [], y :: b, _, _, h => by have := (h y).2 (List.mem_cons_self ..); cases this
  | x :: a, [], _, _, h => by have := (h x).1 (List.mem_cons_self ..); cases this
  | x :: a, y :: b, ha, hb, h => by
    rw [List.pairwise_cons] at ha hb
    have hxy : x = y := by
      have h1 := (h x).1 (List.mem_cons_self ..)
      have h2 := (h y).2 (List.mem_cons_self ..)
      rw [List.mem_cons] at h1 h2
      rcases h1 with h1 | h1
      · exact h1
      · rcases h2 with h2 | h2
        · exact h2.symm
        · have := ha.1 y h2
          have := hb.1 x h1
          omega
    subst hxy
    rw [sorted_eq ha.2 hb.2 (fun z => ?_)]
    constructor
    · intro hz
      have h1 := (h z).1 (List.mem_cons_of_mem _ hz)
      rw [List.mem_cons] at h1
      rcases h1 with rfl | h1
      · have := ha.1 z hz; omega
      · exact h1
    · intro hz
      have h1 := (h z).2 (List.mem_cons_of_mem _ hz)
      rw [List.mem_cons] at h1
      rcases h1 with rfl | h1
      · have := hb.1 z hz; omega
      · exact h1
theorem tr_closed (v : Int) (c : FT) : (tr v c)[(tr v c).length - 1]? = (tr v c)[0]? := by
  obtain ⟨L, hL⟩ := tr_last v c
  have h0 : (tr v c)[0]? = some v := rfl
  rw [h0, hL]
  simp
/-- A tour at one of its edges: what is below it, and the rest. -/
structure SpF (r : Int) (F : FT) (k : Nat) (X : List Int) (p w : Int) (C : FT) (Y : List Int) (F' : FT) : Prop where
  e1 : tr r F = X ++ p :: (tr w C ++ p :: Y)
  e2 : tr r F' = X ++ p :: Y
  pm : F.vs.Perm ((w :: C.vs) ++ F'.vs)
  at' : k = X.length ∨ k = X.length + (tr w C).length
section
variable {r : Int} {F : FT} {k : Nat} {X : List Int} {p w : Int} {C : FT} {Y : List Int} {F' : FT}
theorem SpF.perm (h : SpF r F k X p w C Y F') : (r :: F.vs).Perm ((w :: C.vs) ++ (r :: F'.vs)) := (List.Perm.cons _ h.pm).trans List.perm_middle.symm
theorem SpF.nd (h : SpF r F k X p w C Y F') (ht : TrOk r F) : TrOk w C ∧ TrOk r F' ∧ ∀ x, x ∈ tr w C → x ∉ tr r F' := by
  have hn := h.perm.nodup_iff.1 ht.nd
  rw [List.nodup_append] at hn
  obtain ⟨n1, n2, n3⟩ := hn
  exact ⟨⟨n1, fun x hx => ht.rg x (h.perm.mem_iff.2 (List.mem_append_left _ hx))⟩, ⟨n2, fun x hx => ht.rg x (h.perm.mem_iff.2 (List.mem_append_right _ hx))⟩,
    fun x hx hx' => n3 x ((tr_mem _ _ _).1 hx) x ((tr_mem _ _ _).1 hx') rfl⟩
theorem SpF.len (h : SpF r F k X p w C Y F') : (tr r F).length = X.length + (tr w C).length + Y.length + 2 ∧ (tr r F').length = X.length + Y.length + 1 := by
  rw [h.e1, h.e2]
  simp only [List.length_append, List.length_cons]
  omega
theorem SpF.out1 (h : SpF r F k X p w C Y F') {m : Nat} (hm : m < X.length) : ∃ x, (tr r F)[m]? = some x ∧ x ∈ tr r F' := by
  refine ⟨X[m], ?_, ?_⟩
  · rw [h.e1, List.getElem?_append_left hm, List.getElem?_eq_getElem hm]
  · rw [h.e2]; exact List.mem_append_left _ (List.getElem_mem _)
theorem SpF.atD (h : SpF r F k X p w C Y F') : (tr r F)[X.length]? = some p := by
  rw [h.e1, List.getElem?_append_right (Nat.le_refl _), Nat.sub_self]; rfl
theorem SpF.inn (h : SpF r F k X p w C Y F') {m : Nat} (hm : m < (tr w C).length) : (tr r F)[X.length + 1 + m]? = (tr w C)[m]? := by
  rw [h.e1, List.getElem?_append_right (by omega), show X.length + 1 + m - X.length = m + 1 from by omega, List.getElem?_cons_succ, List.getElem?_append_left hm]
theorem SpF.atU (h : SpF r F k X p w C Y F') : (tr r F)[X.length + (tr w C).length + 1]? = some p := by
  rw [h.e1, List.getElem?_append_right (by omega), show X.length + (tr w C).length + 1 - X.length = (tr w C).length + 1 from by omega, List.getElem?_cons_succ, List.getElem?_append_right (Nat.le_refl _), Nat.sub_self]; rfl
theorem SpF.out2 (h : SpF r F k X p w C Y F') {m : Nat} (hm : m < Y.length) : ∃ x, (tr r F)[X.length + (tr w C).length + 2 + m]? = some x ∧ x ∈ tr r F' := by
  refine ⟨Y[m], ?_, ?_⟩
  · rw [h.e1, List.getElem?_append_right (by omega), show X.length + (tr w C).length + 2 + m - X.length = ((tr w C).length + 1 + m) + 1 from by omega, List.getElem?_cons_succ, List.getElem?_append_right (by omega), show (tr w C).length + 1 + m - (tr w C).length = m + 1 from by omega, List.getElem?_cons_succ, List.getElem?_eq_getElem hm]
  · rw [h.e2]; exact List.mem_append_right _ (List.mem_cons_of_mem _ (List.getElem_mem _))
/-- In or out at a place. -/
theorem SpF.side (h : SpF r F k X p w C Y F') {m : Nat} (hm : m < (tr r F).length) : ∃ x, (tr r F)[m]? = some x ∧ ((X.length < m ∧ m ≤ X.length + (tr w C).length → x ∈ tr w C) ∧ (¬ (X.length < m ∧ m ≤ X.length + (tr w C).length) → x ∈ tr r F')) := by
  have hl := h.len.1
  have hp : p ∈ tr r F' := by rw [h.e2]; simp
  by_cases h1 : m < X.length
  · obtain ⟨x, a, b⟩ := h.out1 h1
    exact ⟨x, a, fun g => by omega, fun _ => b⟩
  by_cases h2 : m = X.length
  · subst h2; exact ⟨p, h.atD, fun g => by omega, fun _ => hp⟩
  by_cases h3 : m ≤ X.length + (tr w C).length
  · have hlt : m - X.length - 1 < (tr w C).length := by omega
    have := h.inn hlt
    rw [show X.length + 1 + (m - X.length - 1) = m from by omega, List.getElem?_eq_getElem hlt] at this
    exact ⟨_, this, fun _ => List.getElem_mem _, fun g => by omega⟩
  by_cases h4 : m = X.length + (tr w C).length + 1
  · subst h4; exact ⟨p, h.atU, fun g => by omega, fun _ => hp⟩
  · obtain ⟨x, a, b⟩ := h.out2 (m := m - (X.length + (tr w C).length + 2)) (by omega)
    rw [show X.length + (tr w C).length + 2 + (m - (X.length + (tr w C).length + 2)) = m from by omega] at a
    exact ⟨x, a, fun g => by omega, fun _ => b⟩
end
def FT.rts : FT → List Int
  | .nil => []
  | .nd v c s => v :: s.rts
theorem rts_app (g : FT) : ∀ f : FT, (f.app g).rts = f.rts ++ g.rts
  | .nil => rfl
  | .nd v c s => by
    have := rts_app g s
    simp [FT.app, FT.rts, this]
theorem rts_vs : ∀ (g : FT) {x : Int}, x ∈ g.rts → x ∈ g.vs
  | .nil, x, h => h
  | .nd v c s, x, h => by
    simp only [FT.rts, List.mem_cons] at h
    simp only [FT.vs, List.mem_cons, List.mem_append]
    rcases h with h | h
    · exact .inl h
    · exact .inr (.inr (rts_vs s h))
def RtO (pa : Int → Int → Prop) (v fr : Int) (g : FT) : Prop := g.rts.Pairwise (· < ·) ∧ ∀ u, u ∈ g.rts ↔ Nb pa v fr u
def GF (pa : Int → Int → Prop) : FT → Int → Prop
  | .nil, _ => True
  | .nd u c s, v => (RtO pa u v c ∧ GF pa c u) ∧ GF pa s v
theorem GF_app {pa : Int → Int → Prop} {v : Int} {g : FT} : ∀ {f : FT}, GF pa f v → GF pa g v → GF pa (f.app g) v
  | .nil, _, h => h
  | .nd u c s, h, h' => ⟨h.1, GF_app h.2 h'⟩
def QF (pa : Int → Int → Prop) (v fr : Int) (i : Nat) (f : FT) : Prop := f.rts.Pairwise (· < ·) ∧ (∀ u, u ∈ f.rts ↔ Nb pa v fr u ∧ u < i) ∧ GF pa f v
theorem qf_skip {pa : Int → Int → Prop} {v fr : Int} {i : Nat} {f : FT} (h : QF pa v fr i f) (hno : ¬ Nb pa v fr i) : QF pa v fr (i + 1) f := by
  refine ⟨h.1, fun u => ?_, h.2.2⟩
  rw [h.2.1]
  constructor
  · rintro ⟨h1, h2⟩; exact ⟨h1, by omega⟩
  · rintro ⟨h1, h2⟩
    refine ⟨h1, ?_⟩
    by_cases hu : u = (i : Int)
    · subst hu; exact absurd h1 hno
    · omega
theorem qf_put {pa : Int → Int → Prop} {v fr : Int} {i : Nat} {f g : FT} (h : QF pa v fr i f) (hnb : Nb pa v fr i) (hg : RtO pa i v g) (hg' : GF pa g i) : QF pa v fr (i + 1) (f.app (.nd i g .nil)) := by
  refine ⟨?_, fun u => ?_, GF_app h.2.2 ⟨⟨hg, hg'⟩, trivial⟩⟩
  · rw [rts_app]
    simp only [FT.rts]
    rw [List.pairwise_append]
    refine ⟨h.1, by simp, fun a ha b hb => ?_⟩
    rw [List.mem_singleton] at hb
    subst hb
    exact ((h.2.1 a).1 ha).2
  · rw [rts_app, List.mem_append, h.2.1]
    simp only [FT.rts, List.mem_singleton]
    constructor
    · rintro (⟨h1, h2⟩ | rfl)
      · exact ⟨h1, by omega⟩
      · exact ⟨hnb, by omega⟩
    · rintro ⟨h1, h2⟩
      by_cases hu : u = (i : Int)
      · exact .inr hu
      · exact .inl ⟨h1, by omega⟩
def WkQ (n : Nat) (pa : Int → Int → Prop) (v fr : Int) (seen : List Bool) (f : FT) (seen' : List Bool) : Prop :=
  WkP n pa v fr seen f seen' ∧ RtO pa v fr f ∧ GF pa f v
section
variable {n : Nat} {es : List Ed} {pa : Int → Int → Prop} {rk : Int → Nat} (F : Fo n es pa rk)
include F
theorem Fo.nb_rg {v fr u : Int} (h : Nb pa v fr u) : 0 ≤ u ∧ u < n := by
  rcases h.2 with h | h
  · exact (F.rg h).1
  · exact (F.rg h).2
theorem Fo.qf0 {v fr : Int} : QF pa v fr 0 .nil := by
  refine ⟨List.Pairwise.nil, fun u => ?_, trivial⟩
  simp only [FT.rts, List.not_mem_nil, false_iff, not_and]
  intro h
  have := F.nb_rg h
  omega
theorem Fo.qfn {v fr : Int} {f : FT} (h : QF pa v fr n f) : RtO pa v fr f := by
  refine ⟨h.1, fun u => ?_⟩
  rw [h.2.1]
  exact ⟨fun h => h.1, fun h => ⟨h, (F.nb_rg h).2⟩⟩
theorem w_sl06WalkS (hn : n ≤ 12) (hes : es.length ≤ 1048576) : ∀ (d : Nat) (v fr : Int) (seen : List Bool) (W : List Int), seen.length = n → (0 ≤ v ∧ v < n) → (fr = -1 ∨ pa fr v ∨ pa v fr) →
    (∀ x : Nat, x < n → Br pa v fr x → seen.getD x false = false) → W.Nodup → (∀ x, x ∈ W → (0 ≤ x ∧ x < n) ∧ seen.getD x.toNat false = true) → n < W.length + d →
    ∃ f seen', g_sl06Walk d ((n : Int), es, v, fr, seen) = some ((tr v f, false), seen') ∧ WkQ n pa v fr seen f seen'
  | 0, v, fr, seen, W, _, _, _, _, hWn, hW, hd => by
    have := nodup_le n W hWn (fun x hx => (hW x hx).1)
    omega
  | d + 1, v, fr, seen, W, hs, hv, hfr, hun, hWn, hW, hd => by
    have hm : maxLen = 9223372036854775807 := by decide
    have hvn : v.toNat < seen.length := by omega
    have hvf : seen.getD v.toNat false = false := hun v.toNat (by omega) (by rw [Int.toNat_of_nonneg hv.1]; exact F.br_self hfr)
    have hvW : v ∉ W := fun h => by
      have := (hW v h).2
      rw [hvf] at this; cases this
    have hW'n : (v :: W).Nodup := List.nodup_cons.2 ⟨hvW, hWn⟩
    show ∃ f seen', f_sl06Walk (g_sl06Walk d) BIG _ = _ ∧ _
    rw [e_sl06Walk]
    rw [bnd_ok hv.1 (by omega), List.getElem?_eq_getElem hvn, Option.bind_some]
    refine loop_bind (P := fun o => ∃ f seen', o = some ((tr v f, false), seen') ∧ WkQ n pa v fr seen f seen')
      (fun (x : List Int × List Bool × Int) => ∃ (i : Nat) (f : FT), x.2.2 = (i : Int) ∧ i ≤ n ∧ x.1 = tr v f ∧ x.2.1.length = n ∧ (v :: f.vs).Nodup ∧ (∀ y, y ∈ f.vs → (0 ≤ y ∧ y < n) ∧ ∃ u : Nat, u < i ∧ Nb pa v fr u ∧ Br pa u v y) ∧ (∀ y : Nat, y < n → (x.2.1.getD y false = true ↔ seen.getD y false = true ∨ (y : Int) ∈ v :: f.vs)) ∧ QF pa v fr i f)
      (fun x => n - x.2.2.toNat) (fun _ (b : (List Int × List Bool) ⊕ (List Int × Bool × List Bool)) => ∃ f seen', b = .inl (tr v f, seen') ∧ WkQ n pa v fr seen f seen') (by simp [BIG]; omega)
      ⟨0, .nil, rfl, by omega, rfl, by rw [List.length_set]; exact hs, by simp [FT.vs], by simp [FT.vs], fun y hy => ?_, F.qf0⟩ (fun self x hx hself => ?_) (fun b ⟨f, seen', h1, h2⟩ => ?_)
    · rw [getD_set_b hvn]
      simp only [FT.vs, List.mem_cons, List.not_mem_nil, or_false]
      constructor
      · rintro (h | h)
        · exact .inl h
        · exact .inr (by omega)
      · rintro (h | h)
        · exact .inl h
        · exact .inr (by omega)
    · obtain ⟨out, sn, u⟩ := x
      obtain ⟨i, f, h1, h2, h3, h4, h5, h6, h7, h8⟩ := hx
      simp only at h1 h2 h3 h4 h5 h6 h7 h8 hself ⊢
      subst h1 h3
      have hfin : ∀ {j : Nat} {f : FT} {sn : List Bool}, sn.length = n → (v :: f.vs).Nodup → (∀ y, y ∈ f.vs → (0 ≤ y ∧ y < n) ∧ ∃ u : Nat, u < j ∧ Nb pa v fr u ∧ Br pa u v y) → (∀ y : Nat, y < n → (sn.getD y false = true ↔ seen.getD y false = true ∨ (y : Int) ∈ v :: f.vs)) → QF pa v fr n f → WkQ n pa v fr seen f sn := by
        intro j f sn k1 k2 k3 k4 k5
        refine ⟨⟨k1, k2, fun x hx => ?_, k4⟩, F.qfn k5, k5.2.2⟩
        rw [List.mem_cons] at hx
        rcases hx with rfl | hx
        · exact ⟨hv, F.br_self hfr⟩
        · obtain ⟨g1, u, _, g2, g3⟩ := k3 x hx
          exact ⟨g1, (F.br_sub hfr g2 g3).1⟩
      by_cases hi : i < n
      · have hed : (bif decide (v < (i : Int)) then some (v, (i : Int)) else some ((i : Int), v)) = some (if v < (i : Int) then (v, (i : Int)) else ((i : Int), v)) := by
          by_cases h : v < (i : Int)
          · rw [decide_eq_true h, if_pos h]; rfl
          · rw [decide_eq_false h, if_neg h]; rfl
        simp only [show ((i : Int) < (n : Int)) from by omega, decide_true, cond_true, hed, Option.bind_some]
        have hnext : ∀ {f' : FT} {sn' : List Bool}, sn'.length = n → (v :: f'.vs).Nodup → (∀ y, y ∈ f'.vs → (0 ≤ y ∧ y < n) ∧ ∃ u : Nat, u < i + 1 ∧ Nb pa v fr u ∧ Br pa u v y) → (∀ y : Nat, y < n → (sn'.getD y false = true ↔ seen.getD y false = true ∨ (y : Int) ∈ v :: f'.vs)) → QF pa v fr (i + 1) f' →
            ∃ b, self (tr v f', sn', IntKind.wrap .i64 ((i : Int) + 1)) = some b ∧ ∃ f seen', b = .inl (tr v f, seen') ∧ WkQ n pa v fr seen f seen' := by
          intro f' sn' k1 k2 k3 k4 k5
          rw [wr1 (by omega)]
          exact hself _ ⟨i + 1, f', rfl, by omega, rfl, k1, k2, k3, k4, k5⟩ (by simp; omega)
        have hskip : ¬ Nb pa v fr i → ∃ b, self (tr v f, sn, IntKind.wrap .i64 ((i : Int) + 1)) = some b ∧ ∃ f seen', b = .inl (tr v f, seen') ∧ WkQ n pa v fr seen f seen' :=
          fun hno => hnext h4 h5 (fun y hy => by
            obtain ⟨g1, u, g2, g3⟩ := h6 y hy
            exact ⟨g1, u, by omega, g3⟩) h7 (qf_skip h8 hno)
        by_cases hif : (i : Int) = fr
        · rw [decide_eq_true hif]
          simp only [cond_true, Option.bind_some]
          exact hskip (fun h => h.1 hif)
        · rw [decide_eq_false hif]
          rw [cond_false, h_sl05Has _ _ (by omega), Option.bind_some]
          by_cases hin : (if v < (i : Int) then (v, (i : Int)) else ((i : Int), v)) ∈ es
          · have hnb : Nb pa v fr i := ⟨hif, (F.ad _ _).1 hin⟩
            have hfr' : v = -1 ∨ pa v i ∨ pa i v := by
              rcases hnb.2 with h | h
              · exact .inr (.inr h)
              · exact .inr (.inl h)
            have hfree : ∀ x : Nat, x < n → Br pa i v x → sn.getD x false = false := by
              intro x hx hb
              obtain ⟨b1, b2⟩ := F.br_sub hfr hnb hb
              cases hg : sn.getD x false with
              | false => rfl
              | true =>
                exfalso
                rcases (h7 x hx).1 hg with h | h
                · rw [hun x hx b1] at h; cases h
                · rw [List.mem_cons] at h
                  rcases h with h | h
                  · exact b2 h
                  · obtain ⟨_, u, u1, u2, u3⟩ := h6 _ h
                    have := F.br_dis u2 hnb u3 hb
                    omega
            have hif2 : sn.getD i false = false := hfree i hi (F.br_self hfr')
            have hil : i < sn.length := by omega
            rw [decide_eq_true hin]
            simp only [Bool.not_true, Option.bind_some, cond_false]
            have hsi : sn[i]? = some false := by
              rw [List.getElem?_eq_getElem hil]
              rw [gD (List.getElem?_eq_getElem hil)] at hif2
              rw [hif2]
            rw [bnd_nat hil, hsi, Option.bind_some, cond_false]
            obtain ⟨g, sn', e1, ⟨w1, w2, w3, w4⟩, w5, w6⟩ := w_sl06WalkS hn hes d i v sn (v :: W) h4 (by omega) hfr' hfree hW'n (fun x hx => by
              rw [List.mem_cons] at hx
              rcases hx with rfl | hx
              · exact ⟨hv, by rw [h7 x.toNat (by omega), Int.toNat_of_nonneg hv.1]; exact .inr (List.mem_cons_self ..)⟩
              · obtain ⟨x1, x2⟩ := hW x hx
                exact ⟨x1, by rw [h7 x.toNat (by omega)]; exact .inl x2⟩) (by simp only [List.length_cons]; omega)
            have hvl : f.vs.length ≤ 12 := by
              have := nodup_le n (v :: f.vs) h5 (fun x hx => by
                rw [List.mem_cons] at hx
                rcases hx with rfl | hx
                · exact hv
                · exact (h6 x hx).1)
              simp only [List.length_cons] at this; omega
            have hgl : g.vs.length ≤ 12 := by
              have := nodup_le n (_ :: g.vs) w2 (fun x hx => (w3 x hx).1)
              simp only [List.length_cons] at this; omega
            rw [e1, Option.bind_some]
            simp only [cond_false]
            rw [decide_eq_true (by simp only [tr_len]; omega), cond_true, decide_eq_true (by simp only [List.length_append, tr_len, List.length_cons, List.length_nil]; omega), cond_true, Option.bind_some]
            have eo : (tr v f ++ tr i g) ++ [v] = tr v (f.app (.nd i g .nil)) := by simp [tr, sg_app, FT.sg]
            simp only [eo]
            have evs : (f.app (.nd i g .nil)).vs = f.vs ++ ((i : Int) :: g.vs) := by rw [vs_app]; simp [FT.vs]
            refine hnext w1 ?_ (fun y hy => ?_) (fun y hy => ?_) (qf_put h8 hnb w5 w6)
            · rw [evs]
              have : (v :: (f.vs ++ (i : Int) :: g.vs)) = (v :: f.vs) ++ (i : Int) :: g.vs := rfl
              rw [this, List.nodup_append]
              refine ⟨h5, w2, fun a ha b hb hab => ?_⟩
              subst hab
              have hb' := (w3 a hb).2
              rw [List.mem_cons] at ha
              rcases ha with rfl | ha
              · exact (F.br_sub hfr hnb hb').2 rfl
              · obtain ⟨_, u, u1, u2, u3⟩ := h6 a ha
                have := F.br_dis u2 hnb u3 hb'
                omega
            · rw [evs, List.mem_append] at hy
              rcases hy with hy | hy
              · obtain ⟨g1, u, g2, g3⟩ := h6 y hy
                exact ⟨g1, u, by omega, g3⟩
              · obtain ⟨g1, g2⟩ := w3 y hy
                exact ⟨g1, i, by omega, hnb, g2⟩
            · rw [w4 y hy, h7 y hy, evs]
              simp only [List.mem_cons, List.mem_append]
              constructor
              · rintro ((h | h | h) | h | h)
                · exact .inl h
                · exact .inr (.inl h)
                · exact .inr (.inr (.inl h))
                · exact .inr (.inr (.inr (.inl h)))
                · exact .inr (.inr (.inr (.inr h)))
              · rintro (h | h | h | h | h)
                · exact .inl (.inl h)
                · exact .inl (.inr (.inl h))
                · exact .inl (.inr (.inr h))
                · exact .inr (.inl h)
                · exact .inr (.inr h)
          · rw [decide_eq_false hin]
            simp only [Bool.not_false, Option.bind_some, cond_true]
            exact hskip (fun h => hin ((F.ad _ _).2 h.2))
      · simp only [show ¬ ((i : Int) < (n : Int)) from by omega, decide_false, cond_false]
        have hin : i = n := by omega
        subst hin
        exact ⟨_, rfl, f, sn, rfl, hfin h4 h5 h6 h7 h8⟩
    · subst h1
      exact ⟨f, seen', rfl, h2⟩
theorem h_sTourOfS (h1 : 1 ≤ n) (h2 : n ≤ 12) (hes : es.length ≤ 1048576) (hE : ∀ e, e ∈ es → edB n e = true) (r : Int) (hr : 0 ≤ r ∧ r < n) :
    ∃ f, g_sTourOf ((n : Int), es, r) = some ((tr r f, true), ()) ∧ (r :: f.vs).Nodup ∧ (∀ x, x ∈ r :: f.vs → 0 ≤ x ∧ x < n) ∧ RtO pa r (-1) f ∧ GF pa f r := by
  have hm : maxLen = 9223372036854775807 := by decide
  obtain ⟨f, sn, e1, ⟨w1, w2, w3, w4⟩, w5, w6⟩ := w_sl06WalkS F h2 hes 64 r (-1) (List.replicate n false) [] (by simp) hr (.inl rfl) (fun x hx _ => by
    rw [gD (List.getElem?_replicate_of_lt hx)]) (by simp) (by simp) (by simp; omega)
  refine ⟨f, ?_, w2, fun x hx => (w3 x hx).1, w5, w6⟩
  show f_sTourOf BIG _ = _
  rw [e_sTourOf, h_sl01In', show inB (n : Int) 1 12 = true from inB_t.2 (by omega), Option.bind_some]
  simp only [Bool.not_true, cond_false]
  rw [wr (n := (n : Int) - 1) (by omega) (by omega), h_sl01In', show inB r 0 ((n : Int) - 1) = true from inB_t.2 (by omega), Option.bind_some, Option.bind_some]
  simp only [Bool.not_true, cond_false]
  rw [hiLoop es (by omega) (fun y => !edB n y) ([], false) (fun self i y hy => ?_) (fun self => by simp)]
  · have : es.any (fun y => !edB n y) = false := by
      rw [List.any_eq_false]
      intro y hy
      rw [hE y hy]; simp
    rw [this]
    simp only [Bool.false_eq_true, if_false, Option.bind_some]
    rw [decide_eq_true (by omega), cond_true, decide_eq_true (by omega), cond_true, Int.toNat_natCast, e1]
    rfl
  · have hi := (List.getElem?_eq_some_iff.1 hy).1
    simp only [show ((i : Int) < (es.length : Int)) from by omega, decide_true, cond_true]
    rw [bnd_nat hi, hy, Option.bind_some, h_sEdgeOk, Option.bind_some, wr1 (by omega)]
    cases edB n y <;> rfl
end
theorem edB_f {n : Nat} {e : Ed} (h : edB n e = true) : 0 ≤ e.1 ∧ e.1 < e.2 ∧ e.2 < n := by
  unfold edB at h
  simp only [Bool.and_eq_true, inB_t, decide_eq_true_eq] at h
  omega
section
variable {n : Nat} {es : List Ed} {pa : Int → Int → Prop} {rk : Int → Nat} (F : Fo n es pa rk) (hE : ∀ e, e ∈ es → edB n e = true)
include F hE
theorem Fo.mem_pa {x y : Int} : (x, y) ∈ es ↔ x < y ∧ (pa x y ∨ pa y x) := by
  constructor
  · intro h
    have h1 := edB_f (hE _ h)
    simp only at h1
    have := (F.ad y x).1 (by rw [if_pos h1.2.1]; exact h)
    exact ⟨h1.2.1, this.symm⟩
  · rintro ⟨h1, h2⟩
    have := (F.ad y x).2 h2.symm
    rwa [if_pos h1] at this
theorem Fo.nxt_iff {v fr x : Int} : (∃ e, e ∈ es ∧ ((e.1 = v ∧ e.2 ≠ fr ∧ x = e.2) ∨ (e.2 = v ∧ e.1 ≠ fr ∧ x = e.1))) ↔ Nb pa v fr x := by
  constructor
  · rintro ⟨⟨a, b⟩, he, ⟨h1, h2, h3⟩ | ⟨h1, h2, h3⟩⟩
    · simp only at h1 h2 h3
      subst h1 h3
      exact ⟨h2, ((F.mem_pa hE).1 he).2.symm⟩
    · simp only at h1 h2 h3
      subst h1 h3
      exact ⟨h2, ((F.mem_pa hE).1 he).2⟩
  · rintro ⟨h1, h2⟩
    have hne : x ≠ v := by
      rintro rfl
      rcases h2 with h2 | h2 <;> exact F.irr h2
    by_cases hlt : v < x
    · exact ⟨(v, x), (F.mem_pa hE).2 ⟨hlt, h2.symm⟩, .inl ⟨rfl, h1, rfl⟩⟩
    · exact ⟨(x, v), (F.mem_pa hE).2 ⟨by omega, h2⟩, .inr ⟨rfl, h1, rfl⟩⟩
/-- The program's walk. -/
theorem w_iwalk (hes : es.length ≤ 1000) : ∀ (d : Nat) (v fr : Int) (g : FT), RtO pa v fr g → GF pa g v → g.vs.length < d → g.vs.length ≤ 1000 → g_iwalk d (es, v, fr) = some (tr v g, ())
  | 0, v, fr, g, _, _, h, _ => by omega
  | d + 1, v, fr, g, hR, hG, hd, hg1 => by
    have hm : maxLen = 9223372036854775807 := by decide
    show f_iwalk (g_iwalk d) BIG _ = _
    rw [e_iwalk]
    refine loop_bind (P := fun o => o = some (tr v g, ())) (fun (s : List Int × Int) => ∃ i : Nat, s.2 = (i : Int) ∧ i ≤ es.length ∧ s.1.Pairwise (· < ·) ∧ s.1.length ≤ 2 * i ∧ ∀ x, x ∈ s.1 ↔ ∃ e, e ∈ es.take i ∧ ((e.1 = v ∧ e.2 ≠ fr ∧ x = e.2) ∨ (e.2 = v ∧ e.1 ≠ fr ∧ x = e.1))) (fun s => es.length - s.2.toNat) (fun _ (b : List Int) => b = g.rts) (by simp [BIG]; omega) ⟨0, rfl, by omega, by simp, by simp, by simp⟩ (fun self s hx hs => ?_) (fun b hb => ?_)
    · obtain ⟨s, j⟩ := s
      obtain ⟨i, h1, h2, h3, h4, h5⟩ := hx
      simp only at h1 h2 h3 h4 h5 hs ⊢
      subst h1
      by_cases hi : i < es.length
      · simp only [show ((i : Int) < (es.length : Int)) from by omega, decide_true, cond_true]
        rw [bnd_nat hi, List.getElem?_eq_getElem hi, Option.bind_some]
        have hlt := edB_f (hE _ (List.getElem_mem hi))
        have htk : ∀ {p : Ed → Prop}, (∃ e, e ∈ es.take (i + 1) ∧ p e) ↔ (∃ e, e ∈ es.take i ∧ p e) ∨ p es[i] := by
          intro p
          rw [List.take_succ_eq_append_getElem hi]
          constructor
          · rintro ⟨e, he, hp⟩
            rw [List.mem_append, List.mem_singleton] at he
            rcases he with he | rfl
            · exact .inl ⟨e, he, hp⟩
            · exact .inr hp
          · rintro (⟨e, he, hp⟩ | hp)
            · exact ⟨e, List.mem_append_left _ he, hp⟩
            · exact ⟨_, List.mem_append_right _ (List.mem_singleton.2 rfl), hp⟩
        have next : ∀ s' : List Int, s'.Pairwise (· < ·) → s'.length ≤ s.length + 2 → (∀ x, x ∈ s' ↔ x ∈ s ∨ ((es[i].1 = v ∧ es[i].2 ≠ fr ∧ x = es[i].2) ∨ (es[i].2 = v ∧ es[i].1 ≠ fr ∧ x = es[i].1))) → ∃ b, self (s', IntKind.wrap .i64 ((i : Int) + 1)) = some b ∧ b = g.rts := by
          intro s' k1 k2 k3
          rw [wr1 (by omega)]
          exact hs _ ⟨i + 1, rfl, hi, k1, by simp only; omega, fun x => by rw [htk, ← h5, k3]⟩ (by simp; omega)
        generalize es[i] = e at hlt next
        by_cases c1 : e.1 = v
        · have c2 : ¬ e.2 = v := by omega
          rw [decide_eq_true c1, cond_true]
          simp only [Option.bind_some]
          by_cases c3 : e.2 = fr
          · rw [decide_eq_true c3]
            simp only [Bool.not_true, cond_false, Option.bind_some, decide_eq_false c2]
            refine next s h3 (by omega) fun x => ?_
            constructor
            · exact .inl
            · rintro (h | ⟨_, h, _⟩ | ⟨h, _⟩)
              · exact h
              · exact absurd c3 h
              · exact absurd h c2
          · obtain ⟨s1, m1, m2, m3, m4⟩ := w_iwithS s e.2 (by omega) h3
            rw [decide_eq_false c3]
            simp only [Bool.not_false, cond_true, m1, cond_false, Option.bind_some, decide_eq_false c2]
            refine next s1 m4 (by omega) fun x => ?_
            rw [m2]
            constructor
            · rintro (h | h)
              · exact .inr (.inl ⟨c1, c3, h⟩)
              · exact .inl h
            · rintro (h | ⟨_, _, h⟩ | ⟨h, _⟩)
              · exact .inr h
              · exact .inl h
              · exact absurd h c2
        · rw [decide_eq_false c1, cond_false]
          simp only [Option.bind_some, cond_false]
          by_cases c2 : e.2 = v
          · rw [decide_eq_true c2, cond_true]
            by_cases c3 : e.1 = fr
            · rw [decide_eq_true c3]
              simp only [Bool.not_true, cond_false, Option.bind_some]
              refine next s h3 (by omega) fun x => ?_
              constructor
              · exact .inl
              · rintro (h | ⟨h, _⟩ | ⟨_, h, _⟩)
                · exact h
                · exact absurd h c1
                · exact absurd c3 h
            · obtain ⟨s1, m1, m2, m3, m4⟩ := w_iwithS s e.1 (by omega) h3
              rw [decide_eq_false c3]
              simp only [Bool.not_false, cond_true, m1, Option.bind_some]
              refine next s1 m4 (by omega) fun x => ?_
              rw [m2]
              constructor
              · rintro (h | h)
                · exact .inr (.inr ⟨c2, c3, h⟩)
                · exact .inl h
              · rintro (h | ⟨h, _⟩ | ⟨_, _, h⟩)
                · exact .inr h
                · exact absurd h c1
                · exact .inl h
          · rw [decide_eq_false c2, cond_false]
            simp only [Option.bind_some, cond_false]
            refine next s h3 (by omega) fun x => ?_
            constructor
            · exact .inl
            · rintro (h | ⟨h, _⟩ | ⟨h, _⟩)
              · exact h
              · exact absurd h c1
              · exact absurd h c2
      · simp only [show ¬ ((i : Int) < (es.length : Int)) from by omega, decide_false, cond_false]
        have : i = es.length := by omega
        subst this
        rw [List.take_length] at h5
        exact ⟨_, rfl, sorted_eq h3 hR.1 fun x => by rw [h5, hR.2, F.nxt_iff hE]⟩
    · subst hb
      have hgl := tr_len v g
      have hrl : g.rts.length ≤ g.vs.length := by
        have : ∀ g : FT, g.rts.length ≤ g.vs.length := by
          intro g
          induction g with
          | nil => simp [FT.rts]
          | nd v c s _ ih => simp only [FT.rts, FT.vs, List.length_cons, List.length_append]; omega
        exact this g
      refine loop_bind (P := fun o => o = some (tr v g, ())) (fun (x : List Int × Int) => ∃ (j : Nat) (s : FT), x.2 = (j : Int) ∧ j ≤ g.rts.length ∧ s.rts = g.rts.drop j ∧ GF pa s v ∧ x.1 ++ s.sg v = tr v g ∧ s.vs.length ≤ g.vs.length) (fun x => g.rts.length - x.2.toNat) (fun _ (b : List Int) => b = tr v g) (by simp [BIG]; omega) ⟨0, g, rfl, by omega, rfl, hG, rfl, by omega⟩ (fun self x hx hs => ?_) (fun b hb => by rw [hb])
      obtain ⟨out, jj⟩ := x
      obtain ⟨j, s, h1, h2, h3, h4, h5, h6⟩ := hx
      simp only at h1 h2 h3 h4 h5 h6 hs ⊢
      subst h1
      by_cases hj : j < g.rts.length
      · simp only [show ((j : Int) < (g.rts.length : Int)) from by omega, decide_true, cond_true]
        rw [List.drop_eq_getElem_cons hj] at h3
        cases s with
        | nil => cases h3
        | nd u c s' =>
          simp only [FT.rts, List.cons.injEq] at h3
          obtain ⟨h3a, h3b⟩ := h3
          obtain ⟨⟨hRc, hGc⟩, hGs⟩ := h4
          simp only [FT.vs, List.length_cons, List.length_append] at h6
          have hc := w_iwalk hes d u v c hRc hGc (by omega) (by omega)
          have ho := congrArg List.length h5
          rw [List.length_append] at ho
          have hcl := tr_len u c
          rw [bnd_nat hj, List.getElem?_eq_getElem hj, Option.bind_some, ← h3a, hc, Option.bind_some]
          simp only
          rw [decide_eq_true (by omega), cond_true, decide_eq_true (by simp only [List.length_append, List.length_cons, List.length_nil]; omega), cond_true, wr1 (by omega)]
          refine hs _ ⟨j + 1, s', rfl, hj, h3b, hGs, ?_, by omega⟩ (by simp; omega)
          simp only
          rw [← h5]
          simp [FT.sg, tr]
      · simp only [show ¬ ((j : Int) < (g.rts.length : Int)) from by omega, decide_false, cond_false]
        rw [List.drop_eq_nil_of_le (by omega)] at h3
        cases s with
        | nil =>
          simp only [FT.sg, List.append_nil] at h5
          exact ⟨_, rfl, h5⟩
        | nd u c s' => simp [FT.rts] at h3
/-- Trees have no rings. -/
theorem Fo.noring (hnd : es.Nodup) (i : Nat) (hi : i < es.length) : ¬ Con (es.take i) es[i].1 es[i].2 := by
  intro hc
  have hmem := List.getElem_mem hi
  have hnot : es[i] ∉ es.take i := by
    have h := hnd
    rw [← List.take_append_drop i es, List.nodup_append] at h
    intro hin
    exact h.2.2 _ hin _ (by rw [List.drop_eq_getElem_cons hi]; exact List.mem_cons_self ..) rfl
  generalize es[i] = e at hc hmem hnot
  obtain ⟨a, b⟩ := e
  simp only at hc
  have main : ∀ {p c : Int}, pa p c → Con (es.take i) c p → ((a, b) = (p, c) ∨ (a, b) = (c, p)) → False := by
    intro p c hpc hcon hab
    obtain ⟨x, y, d1, d2, d3⟩ := con_step (D := De pa c) hcon .refl (fun hd => by
      have := F.rk_le hd
      have := F.up hpc
      omega)
    have hsub : ∀ e, e ∈ es.take i → e ∈ es := fun e he => List.mem_of_mem_take he
    have hadj : pa x y ∨ pa y x := by
      rcases d3 with d3 | d3
      · exact ((F.mem_pa hE).1 (hsub _ d3)).2
      · exact ((F.mem_pa hE).1 (hsub _ d3)).2.symm
    rcases hadj with h | h
    · exact d2 (.step d1 h)
    · cases d1 with
      | refl =>
        have hyp := F.un h hpc
        subst hyp
        rcases d3 with d3 | d3
        · have h1 := ((F.mem_pa hE).1 (hsub _ d3)).1
          have h2 := ((F.mem_pa hE).1 hmem).1
          rcases hab with hab | hab
          · cases hab; omega
          · exact hnot (hab ▸ d3)
        · have h1 := ((F.mem_pa hE).1 (hsub _ d3)).1
          have h2 := ((F.mem_pa hE).1 hmem).1
          rcases hab with hab | hab
          · exact hnot (hab ▸ d3)
          · cases hab; omega
      | step g1 g2 =>
        have := F.un h g2
        subst this
        exact d2 g1
  rcases ((F.mem_pa hE).1 hmem).2 with h | h
  · exact main h hc.symm (.inl rfl)
  · exact main h hc (.inr rfl)
end
theorem w_irings (n : Nat) (es : List Ed) (h1 : 1 ≤ n) (hn : n ≤ 12) (hes : es.length ≤ 1000) (hE : ∀ e, e ∈ es → edB n e = true) :
    ∃ b, g_irings ((n : Int), es) = some (b, ()) ∧ (b = true ↔ ∃ i, ∃ hi : i < es.length, Con (es.take i) es[i].1 es[i].2) := by
  have hm : maxLen = 9223372036854775807 := by decide
  show ∃ b, f_irings BIG _ = _ ∧ _
  rw [e_irings, h_ifirst n (by omega), Option.bind_some]
  refine loop_bind (P := fun o => ∃ b, o = some (b, ()) ∧ (b = true ↔ ∃ i, ∃ hi : i < es.length, Con (es.take i) es[i].1 es[i].2)) (fun (s : List Int × Int) => ∃ i : Nat, s.2 = (i : Int) ∧ i ≤ es.length ∧ Lab n (es.take i) s.1 ∧ ∀ k, k < i → ∀ hk : k < es.length, ¬ Con (es.take k) es[k].1 es[k].2) (fun s => es.length - s.2.toNat) (fun _ (b : Unit ⊕ Bool) => (b = .inl () ∧ ∀ k (hk : k < es.length), ¬ Con (es.take k) es[k].1 es[k].2) ∨ (b = .inr true ∧ ∃ i, ∃ hi : i < es.length, Con (es.take i) es[i].1 es[i].2)) (by simp [BIG]; omega) ⟨0, rfl, by omega, Lab.zero n, fun k hk => by omega⟩ (fun self s hx hs => ?_) (fun b hb => ?_)
  · obtain ⟨l, j⟩ := s
    obtain ⟨i, h3, h4, h5, h6⟩ := hx
    simp only at h3 h4 h5 h6 hs ⊢
    subst h3
    by_cases hi : i < es.length
    · simp only [show ((i : Int) < (es.length : Int)) from by omega, decide_true, cond_true]
      have he := edB_f (hE _ (List.getElem_mem hi))
      have hll := h5.1
      rw [bnd_nat hi, List.getElem?_eq_getElem hi, Option.bind_some, h_iunion l es[i].1 es[i].2 he.1 (by omega) (by omega) (by omega) (by omega), Option.bind_some]
      have hiff := h5.iff (getD_at (show es[i].1.toNat < l.length by omega)) (getD_at (show es[i].2.toNat < l.length by omega))
      rw [Int.toNat_of_nonneg he.1, Int.toNat_of_nonneg (by omega : 0 ≤ es[i].2)] at hiff
      by_cases hq : l.getD es[i].1.toNat 0 = l.getD es[i].2.toNat 0
      · rw [decide_eq_true hq]
        exact ⟨_, rfl, .inr ⟨rfl, i, hi, hiff.1 hq⟩⟩
      · rw [decide_eq_false hq]
        simp only [Bool.not_false, Bool.not_true, cond_false]
        rw [wr1 (by omega)]
        refine hs _ ⟨i + 1, rfl, hi, ?_, fun k hk hk' => ?_⟩ (by simp; omega)
        · rw [List.take_succ_eq_append_getElem hi]
          exact h5.unE (e := es[i]) ⟨he.1, by omega, by omega, he.2.2⟩
        · by_cases hki : k = i
          · subst hki; exact fun hc => hq (hiff.2 hc)
          · exact h6 k (by omega) hk'
    · simp only [show ¬ ((i : Int) < (es.length : Int)) from by omega, decide_false, cond_false]
      exact ⟨_, rfl, .inl ⟨rfl, fun k hk => h6 k (by omega) hk⟩⟩
  · rcases hb with ⟨rfl, h⟩ | ⟨rfl, h⟩
    · exact ⟨false, rfl, ⟨(fun h => by cases h), fun ⟨i, hi, hc⟩ => absurd hc (h i hi)⟩⟩
    · exact ⟨true, rfl, ⟨fun _ => h, fun _ => rfl⟩⟩
theorem iTourOf_pre {n : Nat} {es : List Ed} (h1 : 1 ≤ n) (h2 : n ≤ 12) (hes : es.length ≤ 1000) (hE : ∀ e, e ∈ es → edB n e = true) (r : Int) (hr : 0 ≤ r ∧ r < n) {b : Bool} (hb : g_irings ((n : Int), es) = some (b, ())) :
    g_iTourOf ((n : Int), es, r) = (bif b then some (([], false), ()) else Option.bind (g_iwalk 64 (es, r, (-1 : Int))) fun r10 => some ((r10.1, true), ())) := by
  have hm : maxLen = 9223372036854775807 := by decide
  show f_iTourOf BIG _ = _
  rw [e_iTourOf, h_iin', show inB (n : Int) 1 12 = true from inB_t.2 (by omega), Option.bind_some]
  simp only [Bool.not_true, cond_false]
  rw [wr (n := (n : Int) - 1) (by omega) (by omega), h_iin', show inB r 0 ((n : Int) - 1) = true from inB_t.2 (by omega), Option.bind_some, Option.bind_some]
  simp only [Bool.not_true, cond_false]
  rw [hiLoop es (by omega) (fun y => !edB n y) ([], false) (fun self i y hy => ?_) (fun self => by simp)]
  · have : es.any (fun y => !edB n y) = false := by
      rw [List.any_eq_false]
      intro y hy
      rw [hE y hy]; simp
    rw [this]
    simp only [Bool.false_eq_true, if_false, Option.bind_some]
    rw [hb, Option.bind_some]
  · have hi := (List.getElem?_eq_some_iff.1 hy).1
    simp only [show ((i : Int) < (es.length : Int)) from by omega, decide_true, cond_true]
    rw [bnd_nat hi, hy, Option.bind_some, h_iEdgeOk, Option.bind_some, wr1 (by omega)]
    cases edB n y <;> rfl
def FT.pr : FT → Int → List (Int × Int)
  | .nil, _ => []
  | .nd w c s, r => (r, w) :: (c.pr w ++ s.pr r)
theorem pr_snd : ∀ (f : FT) (r : Int), (f.pr r).map (·.2) = f.vs
  | .nil, _ => rfl
  | .nd w c s, r => by
    have h1 := pr_snd c w
    have h2 := pr_snd s r
    simp [FT.pr, FT.vs, h1, h2]
theorem pr_len (f : FT) (r : Int) : (f.pr r).length = f.vs.length := by rw [← pr_snd f r, List.length_map]
theorem pr_in {f : FT} {r a b : Int} (h : (a, b) ∈ f.pr r) : b ∈ f.vs := by
  rw [← pr_snd f r]
  exact List.mem_map.2 ⟨_, h, rfl⟩
theorem pr_fst : ∀ (f : FT) {r a b : Int}, (a, b) ∈ f.pr r → a ∈ r :: f.vs
  | .nil, r, a, b, h => by cases h
  | .nd w c s, r, a, b, h => by
    simp only [FT.pr, List.mem_cons, List.mem_append, Prod.mk.injEq] at h
    simp only [FT.vs, List.mem_cons, List.mem_append]
    rcases h with ⟨h, _⟩ | h | h
    · exact .inl h
    · have := pr_fst c h
      rw [List.mem_cons] at this
      rcases this with h | h
      · exact .inr (.inl h)
      · exact .inr (.inr (.inl h))
    · have := pr_fst s h
      rw [List.mem_cons] at this
      rcases this with h | h
      · exact .inl h
      · exact .inr (.inr (.inr h))
theorem pr_bef : ∀ (f : FT) (r : Int) {a b : Int}, (a, b) ∈ f.pr r → ∃ X Y, r :: f.vs = X ++ Y ∧ a ∈ X ∧ b ∈ Y
  | .nil, r, a, b, h => by cases h
  | .nd w c s, r, a, b, h => by
    simp only [FT.pr, List.mem_cons, List.mem_append, Prod.mk.injEq] at h
    rcases h with ⟨rfl, rfl⟩ | h | h
    · exact ⟨[a], b :: (c.vs ++ s.vs), rfl, List.mem_cons_self .., List.mem_cons_self ..⟩
    · obtain ⟨X, Y, e, h1, h2⟩ := pr_bef c w h
      refine ⟨r :: X, Y ++ s.vs, ?_, List.mem_cons_of_mem _ h1, List.mem_append_left _ h2⟩
      have : r :: (FT.nd w c s).vs = r :: ((w :: c.vs) ++ s.vs) := rfl
      rw [this, e]; simp
    · obtain ⟨X, Y, e, h1, h2⟩ := pr_bef s r h
      cases X with
      | nil => cases h1
      | cons x X =>
        simp only [List.cons_append, List.cons.injEq] at e
        obtain ⟨rfl, e⟩ := e
        refine ⟨r :: w :: (c.vs ++ X), Y, ?_, ?_, h2⟩
        · have : r :: (FT.nd w c s).vs = r :: w :: (c.vs ++ s.vs) := rfl
          rw [this, e]; simp
        · rw [List.mem_cons] at h1
          rcases h1 with h1 | h1
          · rw [h1]; exact List.mem_cons_self ..
          · exact List.mem_cons_of_mem _ (List.mem_cons_of_mem _ (List.mem_append_right _ h1))
theorem pr_rk {f : FT} {r : Int} (hn : (r :: f.vs).Nodup) {a b : Int} (h : (a, b) ∈ f.pr r) : (r :: f.vs).idxOf a < (r :: f.vs).idxOf b := by
  obtain ⟨X, Y, e, h1, h2⟩ := pr_bef f r h
  rw [e] at hn ⊢
  rw [List.nodup_append] at hn
  have hb : b ∉ X := fun h => hn.2.2 b h b h2 rfl
  rw [List.idxOf_append, List.idxOf_append, if_pos h1, if_neg hb]
  have := List.idxOf_lt_length_of_mem h1
  omega
theorem snd_un : ∀ {l : List (Int × Int)} {a a' b : Int}, (l.map (·.2)).Nodup → (a, b) ∈ l → (a', b) ∈ l → a = a'
  | [], _, _, _, _, h, _ => by cases h
  | x :: l, a, a', b, hn, h, h' => by
    rw [List.map_cons, List.nodup_cons] at hn
    rw [List.mem_cons] at h h'
    rcases h with rfl | h
    · rcases h' with h' | h'
      · cases h'; rfl
      · exact absurd (List.mem_map.2 ⟨_, h', rfl⟩) hn.1
    · rcases h' with rfl | h'
      · exact absurd (List.mem_map.2 ⟨_, h, rfl⟩) hn.1
      · exact snd_un hn.2 h h'
theorem tr_nd (r w : Int) (c s : FT) : tr r (.nd w c s) = r :: (tr w c ++ tr r s) := by simp [tr, FT.sg]
theorem tr_l (r : Int) (c : FT) : (tr r c)[(tr r c).length - 1]? = some r := by rw [tr_closed]; rfl
theorem split_pr : ∀ (f : FT) (r : Int) (k : Nat), k + 1 < (tr r f).length → ∃ p w, (p, w) ∈ f.pr r ∧ (((tr r f)[k]? = some p ∧ (tr r f)[k + 1]? = some w) ∨ ((tr r f)[k]? = some w ∧ (tr r f)[k + 1]? = some p))
  | .nil, r, k, h => by simp [tr, FT.sg] at h
  | .nd w c s, r, k, h => by
    rw [tr_nd] at h ⊢
    have hw : 1 ≤ (tr w c).length := by simp [tr]
    simp only [List.length_cons, List.length_append] at h
    rw [List.getElem?_cons_succ]
    by_cases h0 : k = 0
    · subst h0
      refine ⟨r, w, List.mem_cons_self .., .inl ⟨rfl, ?_⟩⟩
      rw [List.getElem?_append_left (by omega)]; rfl
    · obtain ⟨k, rfl⟩ : ∃ k', k = k' + 1 := ⟨k - 1, by omega⟩
      rw [List.getElem?_cons_succ]
      by_cases h1 : k + 1 < (tr w c).length
      · obtain ⟨p, x, g1, g2⟩ := split_pr c w k h1
        refine ⟨p, x, List.mem_cons_of_mem _ (List.mem_append_left _ g1), ?_⟩
        rw [List.getElem?_append_left (by omega), List.getElem?_append_left h1]
        exact g2
      · by_cases h2 : k + 1 = (tr w c).length
        · refine ⟨r, w, List.mem_cons_self .., .inr ⟨?_, ?_⟩⟩
          · rw [List.getElem?_append_left (by omega), show k = (tr w c).length - 1 from by omega]
            exact tr_l w c
          · rw [List.getElem?_append_right (by omega), h2, Nat.sub_self]; rfl
        · obtain ⟨p, x, g1, g2⟩ := split_pr s r (k - (tr w c).length) (by omega)
          refine ⟨p, x, List.mem_cons_of_mem _ (List.mem_append_right _ g1), ?_⟩
          rw [List.getElem?_append_right (by omega), List.getElem?_append_right (by omega), show k + 1 - (tr w c).length = k - (tr w c).length + 1 from by omega]
          exact g2
theorem pr_at : ∀ (f : FT) (r p w : Int), (p, w) ∈ f.pr r → (∃ k, (tr r f)[k]? = some p ∧ (tr r f)[k + 1]? = some w) ∧ (∃ k, (tr r f)[k]? = some w ∧ (tr r f)[k + 1]? = some p)
  | .nil, r, p, w, h => by cases h
  | .nd u c s, r, p, w, h => by
    rw [tr_nd]
    have hw : 1 ≤ (tr u c).length := by simp [tr]
    have inA : ∀ {x y : Int}, (∃ k, (tr u c)[k]? = some x ∧ (tr u c)[k + 1]? = some y) → ∃ k, (r :: (tr u c ++ tr r s))[k]? = some x ∧ (r :: (tr u c ++ tr r s))[k + 1]? = some y := by
      rintro x y ⟨k, h1, h2⟩
      have hk := (List.getElem?_eq_some_iff.1 h2).1
      refine ⟨k + 1, ?_, ?_⟩
      · rw [List.getElem?_cons_succ, List.getElem?_append_left (by omega)]; exact h1
      · rw [List.getElem?_cons_succ, List.getElem?_append_left hk]; exact h2
    have inB : ∀ {x y : Int}, (∃ k, (tr r s)[k]? = some x ∧ (tr r s)[k + 1]? = some y) → ∃ k, (r :: (tr u c ++ tr r s))[k]? = some x ∧ (r :: (tr u c ++ tr r s))[k + 1]? = some y := by
      rintro x y ⟨k, h1, h2⟩
      refine ⟨(tr u c).length + k + 1, ?_, ?_⟩
      · rw [List.getElem?_cons_succ, List.getElem?_append_right (by omega), show (tr u c).length + k - (tr u c).length = k from by omega]; exact h1
      · rw [List.getElem?_cons_succ, List.getElem?_append_right (by omega), show (tr u c).length + k + 1 - (tr u c).length = k + 1 from by omega]; exact h2
    simp only [FT.pr, List.mem_cons, List.mem_append, Prod.mk.injEq] at h
    rcases h with ⟨rfl, rfl⟩ | h | h
    · constructor
      · refine ⟨0, rfl, ?_⟩
        rw [List.getElem?_cons_succ, List.getElem?_append_left (by omega)]; rfl
      · refine ⟨(tr w c).length, ?_, ?_⟩
        · rw [show (tr w c).length = ((tr w c).length - 1) + 1 from by omega, List.getElem?_cons_succ, List.getElem?_append_left (by omega)]
          exact tr_l w c
        · rw [List.getElem?_cons_succ, List.getElem?_append_right (Nat.le_refl _), Nat.sub_self]; rfl
    · obtain ⟨h1, h2⟩ := pr_at c u p w h
      exact ⟨inA h1, inA h2⟩
    · obtain ⟨h1, h2⟩ := pr_at s r p w h
      exact ⟨inB h1, inB h2⟩
theorem pr_reach : ∀ (f : FT) (r : Int) (S : Int → Prop), S r → (∀ a b, (a, b) ∈ f.pr r → S a → S b) → ∀ x, x ∈ f.vs → S x
  | .nil, _, _, _, _, x, h => by cases h
  | .nd w c s, r, S, hr, hs, x, h => by
    have hw : S w := hs r w (List.mem_cons_self ..) hr
    simp only [FT.vs, List.mem_cons, List.mem_append] at h
    rcases h with rfl | h | h
    · exact hw
    · exact pr_reach c w S hw (fun a b hab => hs a b (List.mem_cons_of_mem _ (List.mem_append_left _ hab))) x h
    · exact pr_reach s r S hr (fun a b hab => hs a b (List.mem_cons_of_mem _ (List.mem_append_right _ hab))) x h
theorem nodup_sub {α : Type} [DecidableEq α] : ∀ (l1 l2 : List α), l1.Nodup → (∀ x, x ∈ l1 → x ∈ l2) → l1.length ≤ l2.length
  | [], l2, _, _ => by simp
  | x :: l1, l2, hn, h => by
    rw [List.nodup_cons] at hn
    have hx := h x (List.mem_cons_self ..)
    have := nodup_sub l1 (l2.erase x) hn.2 fun y hy => (List.mem_erase_of_ne (by rintro rfl; exact hn.1 hy)).2 (h y (List.mem_cons_of_mem _ hy))
    rw [List.length_erase_of_mem hx] at this
    have := List.length_pos_of_mem hx
    simp only [List.length_cons]; omega
theorem nodup_mp {α β : Type} (f : α → β) : ∀ (l : List α), l.Nodup → (∀ x, x ∈ l → ∀ y, y ∈ l → f x = f y → x = y) → (l.map f).Nodup
  | [], _, _ => by simp
  | x :: l, hn, h => by
    rw [List.nodup_cons] at hn
    rw [List.map_cons, List.nodup_cons]
    refine ⟨fun hm => ?_, nodup_mp f l hn.2 fun a ha b hb => h a (List.mem_cons_of_mem _ ha) b (List.mem_cons_of_mem _ hb)⟩
    obtain ⟨y, hy, e⟩ := List.mem_map.1 hm
    have := h y (List.mem_cons_of_mem _ hy) x (List.mem_cons_self ..) e
    subst this
    exact hn.1 hy
theorem GF_closed {pa : Int → Int → Prop} : ∀ (c : FT) (u : Int), GF pa c u → ∀ y, y ∈ c.vs → ∀ z, (pa z y ∨ pa y z) → z ∈ c.vs ∨ z = u
  | .nil, _, _, y, h, _, _ => by cases h
  | .nd w c s, u, ⟨⟨hR, hG⟩, hS⟩, y, h, z, hz => by
    simp only [FT.vs, List.mem_cons, List.mem_append] at h ⊢
    rcases h with rfl | h | h
    · by_cases hzu : z = u
      · exact .inr hzu
      · exact .inl (.inr (.inl (rts_vs c ((hR.2 z).2 ⟨hzu, hz⟩))))
    · rcases GF_closed c w hG y h z hz with h1 | h1
      · exact .inl (.inr (.inl h1))
      · exact .inl (.inl h1)
    · rcases GF_closed s u hS y h z hz with h1 | h1
      · exact .inl (.inr (.inr h1))
      · exact .inr h1
theorem GF_adj {pa : Int → Int → Prop} : ∀ (s : FT) (v : Int), (∀ w, w ∈ s.rts → pa w v ∨ pa v w) → GF pa s v → ∀ y, y ∈ s.vs → ∃ z, pa z y ∨ pa y z
  | .nil, _, _, _, y, h => by cases h
  | .nd w c s, v, hr, ⟨⟨hR, hG⟩, hS⟩, y, h => by
    simp only [FT.vs, List.mem_cons, List.mem_append] at h
    rcases h with rfl | h | h
    · exact ⟨v, (hr y (List.mem_cons_self ..)).symm⟩
    · exact GF_adj c w (fun x hx => ((hR.2 x).1 hx).2) hG y h
    · exact GF_adj s v (fun x hx => hr x (List.mem_cons_of_mem _ hx)) hS y h
end Go.Fw
