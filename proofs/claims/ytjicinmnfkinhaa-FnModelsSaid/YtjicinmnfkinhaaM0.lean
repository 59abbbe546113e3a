/- What the given functions come to. No conditions. -/
import Derived.Test.YtjicinmnfkinhaaX0
import Derived.IntWalk
set_option linter.unusedVariables false
set_option linter.unusedSimpArgs false
set_option linter.unusedSectionVars false
namespace Go.Fw

theorem loop_rel {X B : Type} {F : (X → Option B) → X → Option B} (I : X → Prop) (μ : X → Nat) (Q : X → B → Prop)
    (h : ∀ self x, I x → (∀ y, I y → μ y < μ x → ∃ b, self y = some b ∧ Q y b) → ∃ b, F self x = some b ∧ Q x b) : ∀ {n : Nat} {x : X}, μ x < n → I x → ∃ b, loopT n F x = some b ∧ Q x b
  | 0, _, hn, _ => absurd hn (Nat.not_lt_zero _)
  | n + 1, x, hn, hi => h (it F n) x hi fun _ hy hm => loop_rel I μ Q h (n := n) (by omega) hy
theorem loop_eq {X B : Type} {F : (X → Option B) → X → Option B} (I : X → Prop) (μ : X → Nat) (R : X → B)
    (h : ∀ self x, I x → (∀ y, I y → μ y < μ x → self y = some (R y)) → F self x = some (R x)) {n : Nat} {x : X} (hn : μ x < n) (hi : I x) : loopT n F x = some (R x) := by
  obtain ⟨b, h1, h2⟩ := loop_rel (F := F) I μ (fun x b => b = R x) (fun self x hx hs => ⟨_, h self x hx fun y hy hm => by obtain ⟨b, h1, h2⟩ := hs y hy hm; rw [h1, h2], rfl⟩) hn hi
  rw [h1, h2]
theorem wr {n : Int} (h : -9223372036854775808 ≤ n) (h' : n ≤ 9223372036854775807) : IntKind.wrap .i64 n = n := by
  rw [IntKind.wrap_i64]; omega
theorem wr1 {i : Nat} (h : i < maxLen) : IntKind.wrap .i64 ((i : Int) + 1) = ((i + 1 : Nat) : Int) := by
  have : maxLen = 9223372036854775807 := by decide
  rw [wr (by omega) (by omega)]; rfl
theorem bnd_ok {B : Type} {len : Nat} {i : Int} {k : Nat → Option B} (h : 0 ≤ i) (h' : i < len) : bnd len i k = k i.toNat := by
  unfold bnd
  rw [if_pos ⟨h, by omega⟩]
theorem bnd_nat {B : Type} {len : Nat} {i : Nat} {k : Nat → Option B} (h' : i < len) : bnd len (i : Int) k = k i := by
  rw [bnd_ok (Int.natCast_nonneg i) (by omega)]
  simp
/-- A loop that goes through a row, and is left at the first place where it is told so. -/
theorem allLoop {α B : Type} (a : List α) (hl : a.length < 18446744073709551616) {F : (Int → Option (Unit ⊕ B)) → Int → Option (Unit ⊕ B)} (p : Nat → Bool) (b : B)
    (hF : ∀ self (i : Nat) y, a[i]? = some y → F self (i : Int) = if p i then self ((i + 1 : Nat) : Int) else some (.inr b))
    (hE : ∀ self, F self (a.length : Int) = some (.inl ())) : loopT BIG F 0 = some (if ∀ i, i < a.length → p i = true then .inl () else .inr b) := by
  have hh := loop_rel (F := F) (fun x => ∃ i : Nat, x = i ∧ i ≤ a.length) (fun x => a.length - x.toNat) (fun x r => ((∀ i : Nat, x ≤ (i : Int) → i < a.length → p i = true) ∧ r = .inl ()) ∨ ((∃ i : Nat, i < a.length ∧ p i = false) ∧ r = .inr b)) (fun self x ⟨i, h1, h2⟩ hs => ?_) (n := BIG) (x := 0) (by simp; exact hl) ⟨0, rfl, by simp⟩
  · obtain ⟨r, hr, hq⟩ := hh
    rw [hr]
    congr 1
    rcases hq with ⟨h1, rfl⟩ | ⟨⟨i, h1, h2⟩, rfl⟩
    · rw [if_pos fun i hi => h1 i (by omega) hi]
    · rw [if_neg]
      intro h
      rw [h i h1] at h2; cases h2
  · subst h1
    by_cases hi : i < a.length
    · rw [hF self i a[i] (List.getElem?_eq_getElem hi)]
      cases hp : p i with
      | true =>
        rw [if_pos rfl]
        obtain ⟨r, hr, hq⟩ := hs _ ⟨i + 1, rfl, hi⟩ (by simp; omega)
        refine ⟨r, hr, ?_⟩
        rcases hq with ⟨h1, rfl⟩ | h1
        · refine .inl ⟨fun k hk hk' => ?_, rfl⟩
          by_cases h : k = i
          · subst h; exact hp
          · exact h1 k (by omega) hk'
        · exact .inr h1
      | false => exact ⟨_, rfl, .inr ⟨⟨i, hi, hp⟩, rfl⟩⟩
    · have : i = a.length := by omega
      subst this
      exact ⟨_, hE self, .inl ⟨fun k hk hk' => by omega, rfl⟩⟩
theorem maxLen_lt : maxLen < 18446744073709551616 := by decide
/-- Two rows that are looked at side by side. -/
theorem eqLoop {α B : Type} [DecidableEq α] (a b : List α) (hl : a.length ≤ maxLen) (hab : a.length = b.length) {F : (Int → Option (Unit ⊕ B)) → Int → Option (Unit ⊕ B)} (r : B)
    (hF : ∀ self (i : Nat) x y, a[i]? = some x → b[i]? = some y → F self (i : Int) = if x = y then self ((i + 1 : Nat) : Int) else some (.inr r))
    (hE : ∀ self, F self (a.length : Int) = some (.inl ())) : loopT BIG F 0 = some (if a = b then .inl () else .inr r) := by
  rw [allLoop a (Nat.lt_of_le_of_lt hl maxLen_lt) (fun i => decide (a[i]? = b[i]?)) r (fun self i y hy => ?_) hE]
  · congr 1
    by_cases h : a = b
    · subst h; simp
    · rw [if_neg h, if_neg]
      intro h'
      apply h
      apply List.ext_getElem? fun i => ?_
      by_cases hi : i < a.length
      · simpa using h' i hi
      · rw [List.getElem?_eq_none (by omega), List.getElem?_eq_none (by omega)]
  · have hi := (List.getElem?_eq_some_iff.1 hy).1
    have hb : b[i]? = some (b[i]'(by omega)) := List.getElem?_eq_getElem (by omega)
    rw [hF self i y _ hy hb, hy, hb]
    simp
/-- A loop that goes through a row and keeps an account. -/
theorem foldLoop {α S B : Type} (a : List α) (hl : a.length < 18446744073709551616) {F : (S × Int → Option B) → S × Int → Option B} (I : Nat → S → Prop) (st : S → α → S) (R : S → B) {s0 : S} (h0 : I 0 s0)
    (hI : ∀ i s y, a[i]? = some y → I i s → I (i + 1) (st s y)) (hF : ∀ self s (i : Nat) y, a[i]? = some y → I i s → F self (s, (i : Int)) = self (st s y, ((i + 1 : Nat) : Int)))
    (hE : ∀ self s, I a.length s → F self (s, (a.length : Int)) = some (R s)) : loopT BIG F (s0, 0) = some (R (a.foldl st s0)) := by
  have := loop_eq (F := F) (fun x => ∃ i : Nat, x.2 = i ∧ i ≤ a.length ∧ I i x.1) (fun x => a.length - x.2.toNat) (fun x => R ((a.drop x.2.toNat).foldl st x.1)) (fun self x ⟨i, h1, h2, h3⟩ hs => ?_) (n := BIG) (x := (s0, 0)) (by simp; exact hl) ⟨0, rfl, by simp, h0⟩
  · simpa using this
  · obtain ⟨s, j⟩ := x
    simp only at h1 h2 h3
    subst h1
    by_cases hi : i < a.length
    · have hy := List.getElem?_eq_getElem hi
      rw [hF self s i a[i] hy h3, hs _ ⟨i + 1, rfl, hi, hI _ _ _ hy h3⟩ (by simp; omega)]
      simp only [Int.toNat_natCast]
      rw [List.drop_eq_getElem_cons hi, List.foldl_cons]
    · have : i = a.length := by omega
      subst this
      rw [hE self s h3]
      simp
theorem set_take_drop {α : Type} {a t : List α} {i : Nat} {z : α} (ht : t.length = a.length) (hi : i < a.length) (hz : t[i]? = some z) : (t.take i ++ a.drop i).set i z = t.take (i + 1) ++ a.drop (i + 1) := by
  have hi' : i < t.length := by omega
  rw [List.getElem?_eq_getElem hi', Option.some.injEq] at hz
  subst hz
  rw [List.set_append_right _ _ (by simp; omega), List.drop_eq_getElem_cons hi, show i - (t.take i).length = 0 from by simp; omega, List.set_cons_zero, List.take_succ_eq_append_getElem hi', List.append_assoc]
  rfl
/-- A row bears marks that go from a number to a number. -/
def HdL {α : Type} (hd : Int → α → Int → Prop) : Int → List α → Int → Prop
  | k, [], k' => k' = k
  | k, z :: t, k' => ∃ k1, hd k z k1 ∧ HdL hd k1 t k'
theorem HdL.snoc {α : Type} {hd : Int → α → Int → Prop} : ∀ {t : List α} {k k1 k2 : Int} {z : α}, HdL hd k t k1 → hd k1 z k2 → HdL hd k (t ++ [z]) k2
  | [], _, _, _, _, h, h' => by cases h; exact ⟨_, h', rfl⟩
  | _ :: _, _, _, _, _, ⟨k3, h1, h2⟩, h' => ⟨k3, h1, h2.snoc h'⟩
/-- Two vertices hang together by edges. -/
inductive Con (E : List (Int × Int)) : Int → Int → Prop
  | refl (v : Int) : Con E v v
  | fwd {u v w : Int} : Con E u v → (v, w) ∈ E → Con E u w
  | bwd {u v w : Int} : Con E u v → (w, v) ∈ E → Con E u w
theorem Con.trans {E : List (Int × Int)} {u v w : Int} (h : Con E u v) (h' : Con E v w) : Con E u w := by
  induction h' with
  | refl => exact h
  | fwd _ he ih => exact .fwd ih he
  | bwd _ he ih => exact .bwd ih he
theorem Con.symm {E : List (Int × Int)} {u v : Int} (h : Con E u v) : Con E v u := by
  induction h with
  | refl => exact .refl _
  | fwd _ he ih => exact Con.trans (.bwd (.refl _) he) ih
  | bwd _ he ih => exact Con.trans (.fwd (.refl _) he) ih
theorem Con.mono {E E' : List (Int × Int)} (hE : ∀ e, e ∈ E → e ∈ E') {u v : Int} (h : Con E u v) : Con E' u v := by
  induction h with
  | refl => exact .refl _
  | fwd _ he ih => exact .fwd ih (hE _ he)
  | bwd _ he ih => exact .bwd ih (hE _ he)
theorem Con.of {E : List (Int × Int)} {u v : Int} (h : (u, v) ∈ E) : Con E u v := .fwd (.refl _) h
/-- Each edge of the one row hangs together by the other. -/
theorem Con.sub {E E' : List (Int × Int)} (hE : ∀ e, e ∈ E → Con E' e.1 e.2) {u v : Int} (h : Con E u v) : Con E' u v := by
  induction h with
  | refl => exact .refl _
  | fwd _ he ih => exact ih.trans (hE _ he)
  | bwd _ he ih => exact ih.trans (hE _ he).symm
theorem Con.nil {u v : Int} (h : Con [] u v) : u = v := by
  induction h with
  | refl => rfl
  | fwd _ he _ => cases he
  | bwd _ he _ => cases he
theorem Con.snoc {E : List (Int × Int)} {a b u v : Int} : Con (E ++ [(a, b)]) u v ↔ Con E u v ∨ (Con E u a ∧ Con E b v) ∨ (Con E u b ∧ Con E a v) := by
  constructor
  · intro h
    induction h with
    | refl => exact .inl (.refl _)
    | fwd _ he ih =>
      rcases List.mem_append.1 he with h1 | h1
      · rcases ih with h | ⟨h, h'⟩ | ⟨h, h'⟩
        · exact .inl (.fwd h h1)
        · exact .inr (.inl ⟨h, .fwd h' h1⟩)
        · exact .inr (.inr ⟨h, .fwd h' h1⟩)
      · cases List.mem_singleton.1 h1
        rcases ih with h | ⟨h, h'⟩ | ⟨h, h'⟩
        · exact .inr (.inl ⟨h, .refl _⟩)
        · exact .inr (.inl ⟨h, .refl _⟩)
        · exact .inl h
    | bwd _ he ih =>
      rcases List.mem_append.1 he with h1 | h1
      · rcases ih with h | ⟨h, h'⟩ | ⟨h, h'⟩
        · exact .inl (.bwd h h1)
        · exact .inr (.inl ⟨h, .bwd h' h1⟩)
        · exact .inr (.inr ⟨h, .bwd h' h1⟩)
      · cases List.mem_singleton.1 h1
        rcases ih with h | ⟨h, h'⟩ | ⟨h, h'⟩
        · exact .inr (.inr ⟨h, .refl _⟩)
        · exact .inl h
        · exact .inr (.inr ⟨h, .refl _⟩)
  · have hm : ∀ {x y : Int}, Con E x y → Con (E ++ [(a, b)]) x y := fun h => h.mono fun e he => List.mem_append_left _ he
    have hab : Con (E ++ [(a, b)]) a b := .of (List.mem_append_right _ (List.mem_singleton.2 rfl))
    rintro (h | ⟨h, h'⟩ | ⟨h, h'⟩)
    · exact hm h
    · exact (hm h).trans (hab.trans (hm h'))
    · exact (hm h).trans (hab.symm.trans (hm h'))
/-- Edges of so many vertices. -/
def EIn (n : Nat) (E : List (Int × Int)) : Prop := ∀ e, e ∈ E → 0 ≤ e.1 ∧ e.1 < n ∧ 0 ≤ e.2 ∧ e.2 < n
theorem Con.range {n : Nat} {E : List (Int × Int)} (hE : EIn n E) {u v : Int} (h : Con E u v) (hu : 0 ≤ u ∧ u < n) : 0 ≤ v ∧ v < n := by
  induction h with
  | refl => exact hu
  | fwd _ he _ => exact ⟨(hE _ he).2.2.1, (hE _ he).2.2.2⟩
  | bwd _ he _ => exact ⟨(hE _ he).1, (hE _ he).2.1⟩
/-- Labels: to each vertex the least one that it hangs together with. -/
def Lab (n : Nat) (E : List (Int × Int)) (l : List Int) : Prop :=
  l.length = n ∧ ∀ (v : Nat) (x : Int), l[v]? = some x → Con E v x ∧ 0 ≤ x ∧ ∀ u : Int, 0 ≤ u → Con E v u → x ≤ u
theorem Lab.le {n : Nat} {E : List (Int × Int)} {l : List Int} (h : Lab n E l) {v : Nat} {x : Int} (hx : l[v]? = some x) : x ≤ v :=
  (h.2 v x hx).2.2 v (Int.natCast_nonneg v) (.refl _)
theorem Lab.lt {n : Nat} {E : List (Int × Int)} {l : List Int} (h : Lab n E l) {v : Nat} {x : Int} (hx : l[v]? = some x) : 0 ≤ x ∧ x < n := by
  have h1 := h.le hx
  have h2 := (List.getElem?_eq_some_iff.1 hx).1
  have h3 := (h.2 v x hx).2.1
  have h4 := h.1
  omega
theorem Lab.iff {n : Nat} {E : List (Int × Int)} {l : List Int} (h : Lab n E l) {u v : Nat} {x y : Int} (hx : l[u]? = some x) (hy : l[v]? = some y) : x = y ↔ Con E u v := by
  have h1 := h.2 u x hx
  have h2 := h.2 v y hy
  constructor
  · intro e
    subst e
    exact h1.1.trans h2.1.symm
  · intro c
    have a := h1.2.2 y h2.2.1 (c.trans h2.1)
    have b := h2.2.2 x h1.2.1 (c.symm.trans h1.1)
    omega
/-- A label is its own label. -/
theorem Lab.self {n : Nat} {E : List (Int × Int)} {l : List Int} (h : Lab n E l) {v : Nat} {x : Int} (hx : l[v]? = some x) : l[x.toNat]? = some x := by
  have h1 := h.lt hx
  have hi : x.toNat < l.length := by rw [h.1]; omega
  rw [List.getElem?_eq_getElem hi]
  have h2 := h.2 v x hx
  have hc : Con E (x.toNat : Int) v := by rw [Int.toNat_of_nonneg h1.1]; exact h2.1.symm
  rw [(h.iff (List.getElem?_eq_getElem hi) hx).2 hc]
theorem Lab.uniq {n : Nat} {E E' : List (Int × Int)} {l l' : List Int} (h : Lab n E l) (h' : Lab n E' l') (hc : ∀ u v : Int, Con E u v ↔ Con E' u v) : l = l' := by
  apply List.ext_getElem?
  intro i
  by_cases hi : i < n
  · have e1 : l[i]? = some (l[i]'(by rw [h.1]; exact hi)) := List.getElem?_eq_getElem _
    have e2 : l'[i]? = some (l'[i]'(by rw [h'.1]; exact hi)) := List.getElem?_eq_getElem _
    rw [e1, e2]
    have h1 := h.2 i _ e1
    have h2 := h'.2 i _ e2
    have a := h1.2.2 _ h2.2.1 ((hc _ _).2 h2.1)
    have b := h2.2.2 _ h1.2.1 ((hc _ _).1 h1.1)
    congr 1
    omega
  · rw [List.getElem?_eq_none (by rw [h.1]; omega), List.getElem?_eq_none (by rw [h'.1]; omega)]
/-- Labels without edges. -/
def lab0 (n : Nat) : List Int := (List.range n).map fun (i : Nat) => (i : Int)
theorem lab0_get {n v : Nat} {x : Int} (h : (lab0 n)[v]? = some x) : v < n ∧ x = v := by
  have hi := (List.getElem?_eq_some_iff.1 h).1
  simp only [lab0, List.length_map, List.length_range] at hi
  simp only [lab0, List.getElem?_map, List.getElem?_range hi, Option.map_some, Option.some.injEq] at h
  exact ⟨hi, h.symm⟩
theorem lab0_len (n : Nat) : (lab0 n).length = n := by simp [lab0]
theorem Lab.zero (n : Nat) : Lab n [] (lab0 n) := by
  refine ⟨lab0_len n, fun v x h => ?_⟩
  obtain ⟨_, rfl⟩ := lab0_get h
  exact ⟨.refl _, Int.natCast_nonneg v, fun u _ h => by rw [h.nil]; exact Int.le_refl _⟩
/-- Two labels made one. -/
def unL (l : List Int) (x y : Int) : List Int := l.map fun z => if z = (if y > x then y else x) then (if y < x then y else x) else z
theorem unL_len (l : List Int) (x y : Int) : (unL l x y).length = l.length := by simp [unL]
theorem unL_same (l : List Int) (x : Int) : unL l x x = l := by
  unfold unL
  conv => rhs; rw [← List.map_id l]
  apply List.map_congr_left
  intro z _
  simp only [gt_iff_lt, Int.lt_irrefl, if_false, id]
  split <;> simp_all
theorem Lab.union {n : Nat} {E : List (Int × Int)} {l : List Int} (h : Lab n E l) {a b : Nat} {x y : Int} (hx : l[a]? = some x) (hy : l[b]? = some y) : Lab n (E ++ [((a : Int), (b : Int))]) (unL l x y) := by
  refine ⟨by rw [unL_len, h.1], fun v z hz => ?_⟩
  simp only [unL, List.getElem?_map, Option.map_eq_some_iff] at hz
  obtain ⟨w, hw, hz⟩ := hz
  have hax := h.2 a x hx
  have hby := h.2 b y hy
  have hvw := h.2 v w hw
  have ew : ∀ {c : Nat} {t : Int}, l[c]? = some t → (w = t ↔ Con E v c) := fun hc => h.iff hw hc
  have hA := ew hx
  have hB := ew hy
  have hab : Con (E ++ [((a : Int), (b : Int))]) a b := .of (List.mem_append_right _ (List.mem_singleton.2 rfl))
  have hm : ∀ {s t : Int}, Con E s t → Con (E ++ [((a : Int), (b : Int))]) s t := fun h => h.mono fun e he => List.mem_append_left _ he
  by_cases hxy : x = y
  · subst hxy
    have hcab : Con E a b := (h.iff hx hy).1 rfl
    have : z = w := by
      subst hz
      simp only [gt_iff_lt, Int.lt_irrefl, if_false]
      split <;> simp_all
    subst this
    refine ⟨hm hvw.1, hvw.2.1, fun u hu hc => ?_⟩
    apply hvw.2.2 u hu
    rcases Con.snoc.1 hc with h1 | ⟨h1, h2⟩ | ⟨h1, h2⟩
    · exact h1
    · exact h1.trans (hcab.trans h2)
    · exact h1.trans (hcab.symm.trans h2)
  · have key : ∀ u : Int, 0 ≤ u → Con (E ++ [((a : Int), (b : Int))]) v u → (w ≤ u) ∨ (w = x ∧ y ≤ u) ∨ (w = y ∧ x ≤ u) := by
      intro u hu hc
      rcases Con.snoc.1 hc with h1 | ⟨h1, h2⟩ | ⟨h1, h2⟩
      · exact .inl (hvw.2.2 u hu h1)
      · exact .inr (.inl ⟨hA.2 h1, hby.2.2 u hu h2⟩)
      · exact .inr (.inr ⟨hB.2 h1, hax.2.2 u hu h2⟩)
    by_cases hwx : w = x
    · have hva := hA.1 hwx
      subst hwx
      by_cases hlt : y > w
      · rw [if_pos hlt, if_neg (by omega)] at hz
        subst hz
        refine ⟨hm hvw.1, hvw.2.1, fun u hu hc => ?_⟩
        rcases key u hu hc with h1 | h1 | h1 <;> omega
      · rw [if_neg hlt, if_pos rfl, if_pos (by omega)] at hz
        subst hz
        refine ⟨(hm hva).trans (hab.trans (hm hby.1)), hby.2.1, fun u hu hc => ?_⟩
        rcases key u hu hc with h1 | h1 | h1 <;> omega
    · by_cases hwy : w = y
      · have hvb := hB.1 hwy
        subst hwy
        by_cases hlt : w > x
        · rw [if_pos hlt, if_pos rfl, if_neg (by omega)] at hz
          subst hz
          refine ⟨(hm hvb).trans (hab.symm.trans (hm hax.1)), hax.2.1, fun u hu hc => ?_⟩
          rcases key u hu hc with h1 | h1 | h1 <;> omega
        · rw [if_neg hlt, if_neg hwx] at hz
          subst hz
          refine ⟨hm hvw.1, hvw.2.1, fun u hu hc => ?_⟩
          rcases key u hu hc with h1 | h1 | h1 <;> omega
      · rw [if_neg (by split <;> omega)] at hz
        subst hz
        refine ⟨hm hvw.1, hvw.2.1, fun u hu hc => ?_⟩
        rcases key u hu hc with h1 | h1 | h1 <;> omega
/-- One edge's part in the labels. -/
def unE (l : List Int) (e : Int × Int) : List Int := unL l (l.getD e.1.toNat 0) (l.getD e.2.toNat 0)
theorem unE_len (l : List Int) (e : Int × Int) : (unE l e).length = l.length := unL_len _ _ _
theorem Lab.unE {n : Nat} {E : List (Int × Int)} {l : List Int} (h : Lab n E l) {e : Int × Int} (he : 0 ≤ e.1 ∧ e.1 < n ∧ 0 ≤ e.2 ∧ e.2 < n) : Lab n (E ++ [e]) (unE l e) := by
  have h1 : e.1.toNat < l.length := by rw [h.1]; omega
  have h2 : e.2.toNat < l.length := by rw [h.1]; omega
  have := h.union (a := e.1.toNat) (b := e.2.toNat) (List.getElem?_eq_getElem h1) (List.getElem?_eq_getElem h2)
  rw [Int.toNat_of_nonneg he.1, Int.toNat_of_nonneg he.2.2.1] at this
  unfold Go.Fw.unE
  rw [List.getD_eq_getElem?_getD, List.getD_eq_getElem?_getD, List.getElem?_eq_getElem h1, List.getElem?_eq_getElem h2]
  exact this
theorem Lab.fold {n : Nat} : ∀ {D E : List (Int × Int)} {l : List Int}, Lab n E l → EIn n D → Lab n (E ++ D) (D.foldl Go.Fw.unE l)
  | [], E, l, h, _ => by simpa using h
  | e :: D, E, l, h, hD => by
    have := Lab.fold (D := D) (h.unE (hD e (List.mem_cons_self ..))) fun x hx => hD x (List.mem_cons_of_mem _ hx)
    rw [List.foldl_cons]
    rwa [List.append_assoc] at this
/-- The labels by edges. -/
def labs (n : Nat) (E : List (Int × Int)) : List Int := E.foldl unE (lab0 n)
theorem labs_ok {n : Nat} {E : List (Int × Int)} (h : EIn n E) : Lab n E (labs n E) := by
  have := (Lab.zero n).fold h
  simpa [labs] using this
theorem labs_len (n : Nat) (E : List (Int × Int)) : (labs n E).length = n := by
  have : ∀ (E : List (Int × Int)) (l : List Int), (E.foldl unE l).length = l.length := by
    intro E
    induction E with
    | nil => simp
    | cons e E ih => intro l; rw [List.foldl_cons, ih, unE_len]
  rw [labs, this, lab0_len]
/-- One edge's part in a round of labels that are made less and less. -/
def rlE (l : List Int) (e : Int × Int) : List Int :=
  let x := l.getD e.1.toNat 0
  let y := l.getD e.2.toNat 0
  let l := if x < y then l.set e.2.toNat x else l
  if y < x then l.set e.1.toNat y else l
theorem rlE_len (l : List Int) (e : Int × Int) : (rlE l e).length = l.length := by
  unfold rlE; simp only; split <;> split <;> simp
def lrnd (E : List (Int × Int)) (l : List Int) : List Int := E.foldl rlE l
theorem lrnd_len : ∀ (E : List (Int × Int)) (l : List Int), (lrnd E l).length = l.length
  | [], l => rfl
  | e :: E, l => by show (lrnd E (rlE l e)).length = _; rw [lrnd_len E, rlE_len]
section
variable {n : Nat} {E : List (Int × Int)} {L : List Int}
/-- On the way down to the labels. -/
def Dn (n : Nat) (E : List (Int × Int)) (l : List Int) : Prop := l.length = n ∧ ∀ (v : Nat) (x : Int), l[v]? = some x → Con E v x ∧ 0 ≤ x
theorem Dn.ge (hL : Lab n E L) {l : List Int} (h : Dn n E l) {v : Nat} {x y : Int} (hx : l[v]? = some x) (hy : L[v]? = some y) : y ≤ x :=
  (hL.2 v y hy).2.2 x (h.2 v x hx).2 (h.2 v x hx).1
theorem Dn.set {l : List Int} (h : Dn n E l) {v : Nat} {x : Int} (hc : Con E v x) (h0 : 0 ≤ x) : Dn n E (l.set v x) := by
  refine ⟨by simp [h.1], fun u y hu => ?_⟩
  rw [List.getElem?_set] at hu
  split at hu
  · subst v
    split at hu
    · cases hu; exact ⟨hc, h0⟩
    · cases hu
  · exact h.2 u y hu
theorem getD_at {l : List Int} {i : Nat} (h : i < l.length) : l[i]? = some (l.getD i 0) := by
  rw [List.getD_eq_getElem?_getD, List.getElem?_eq_getElem h]; rfl
/-- What an edge's part does. -/
theorem Dn.rlE (hL : Lab n E L) {l : List Int} (h : Dn n E l) {e : Int × Int} (hm : e ∈ E) (he : 0 ≤ e.1 ∧ e.1 < n ∧ 0 ≤ e.2 ∧ e.2 < n) :
    Dn n E (rlE l e) ∧ (∀ (v : Nat), (rlE l e).getD v 0 ≤ l.getD v 0) ∧
    (l.getD e.1.toNat 0 = L.getD e.1.toNat 0 → (rlE l e).getD e.2.toNat 0 = L.getD e.2.toNat 0) ∧
    (l.getD e.2.toNat 0 = L.getD e.2.toNat 0 → (rlE l e).getD e.1.toNat 0 = L.getD e.1.toNat 0) := by
  obtain ⟨h1, h2, h3, h4⟩ := he
  have i1 : e.1.toNat < l.length := by rw [h.1]; omega
  have i2 : e.2.toNat < l.length := by rw [h.1]; omega
  have j1 : e.1.toNat < L.length := by rw [hL.1]; omega
  have j2 : e.2.toNat < L.length := by rw [hL.1]; omega
  have c12 : Con E (e.1.toNat : Int) (e.2.toNat : Int) := by
    rw [Int.toNat_of_nonneg h1, Int.toNat_of_nonneg h3]; exact .of hm
  have hLe := (hL.iff (getD_at j1) (getD_at j2)).2 c12
  have a1 := h.2 _ _ (getD_at i1)
  have a2 := h.2 _ _ (getD_at i2)
  have g1 := h.ge hL (getD_at i1) (getD_at j1)
  have g2 := h.ge hL (getD_at i2) (getD_at j2)
  have gs : ∀ (i : Nat) (z : Int) (v : Nat), i < l.length → (l.set i z).getD v 0 = if i = v then z else l.getD v 0 := by
    intro i z v hi
    rw [List.getD_eq_getElem?_getD, List.getElem?_set]
    split
    · subst v; simp
    · rw [List.getD_eq_getElem?_getD]
  unfold Go.Fw.rlE
  simp only
  by_cases hlt : l.getD e.1.toNat 0 < l.getD e.2.toNat 0
  · rw [if_pos hlt, if_neg (by omega)]
    refine ⟨h.set (c12.symm.trans a1.1) a1.2, fun v => ?_, fun hd => ?_, fun hd => ?_⟩
    · rw [gs _ _ _ i2]
      split
      · subst v; omega
      · exact Int.le_refl _
    · rw [gs _ _ _ i2, if_pos rfl]; omega
    · omega
  · rw [if_neg hlt]
    by_cases hgt : l.getD e.2.toNat 0 < l.getD e.1.toNat 0
    · rw [if_pos hgt]
      refine ⟨h.set (c12.trans a2.1) a2.2, fun v => ?_, fun hd => ?_, fun hd => ?_⟩
      · rw [gs _ _ _ i1]
        split
        · subst v; omega
        · exact Int.le_refl _
      · omega
      · rw [gs _ _ _ i1, if_pos rfl]; omega
    · rw [if_neg hgt]
      refine ⟨h, fun v => Int.le_refl _, fun hd => ?_, fun hd => ?_⟩ <;> omega
theorem Dn.rnd (hL : Lab n E L) (hE : EIn n E) : ∀ (D : List (Int × Int)) (l : List Int), (∀ e, e ∈ D → e ∈ E) → Dn n E l →
    Dn n E (lrnd D l) ∧ (∀ v : Nat, (lrnd D l).getD v 0 ≤ l.getD v 0) ∧
    ∀ e, e ∈ D → (l.getD e.1.toNat 0 = L.getD e.1.toNat 0 → (lrnd D l).getD e.2.toNat 0 = L.getD e.2.toNat 0) ∧ (l.getD e.2.toNat 0 = L.getD e.2.toNat 0 → (lrnd D l).getD e.1.toNat 0 = L.getD e.1.toNat 0)
  | [], l, _, h => ⟨h, fun v => Int.le_refl _, fun e he => by cases he⟩
  | e :: D, l, hs, h => by
    have hm := hs e (List.mem_cons_self ..)
    obtain ⟨h1, h2, h3, h4⟩ := h.rlE hL hm (hE e hm)
    obtain ⟨k1, k2, k3⟩ := Dn.rnd hL hE D (Go.Fw.rlE l e) (fun x hx => hs x (List.mem_cons_of_mem _ hx)) h1
    -- what is done stays done
    have dn : ∀ {l' : List Int} (v : Nat), v < n → Dn n E l' → (∀ u : Nat, l'.getD u 0 ≤ l.getD u 0) → l.getD v 0 = L.getD v 0 → l'.getD v 0 = L.getD v 0 := by
      intro l' v hv hl' hle hd
      have hg := hl'.ge hL (getD_at (l := l') (i := v) (by rw [hl'.1]; exact hv)) (getD_at (l := L) (i := v) (by rw [hL.1]; exact hv))
      have := hle v
      omega
    have dn' : ∀ (v : Nat), v < n → (Go.Fw.rlE l e).getD v 0 = L.getD v 0 → (Go.Fw.lrnd D (Go.Fw.rlE l e)).getD v 0 = L.getD v 0 := by
      intro v hv hd
      have hg := k1.ge hL (getD_at (i := v) (by rw [k1.1]; exact hv)) (getD_at (l := L) (i := v) (by rw [hL.1]; exact hv))
      have := k2 v
      omega
    refine ⟨k1, fun v => Int.le_trans (k2 v) (h2 v), fun e' he' => ?_⟩
    rcases List.mem_cons.1 he' with rfl | he'
    · have hb := hE _ hm
      exact ⟨fun hd => dn' _ (by omega) (h3 hd), fun hd => dn' _ (by omega) (h4 hd)⟩
    · have hb := hE _ (hs e' (List.mem_cons_of_mem _ he'))
      exact ⟨fun hd => (k3 e' he').1 (dn _ (by omega) h1 h2 hd), fun hd => (k3 e' he').2 (dn _ (by omega) h1 h2 hd)⟩
/-- How many vertices have their label. -/
def cntD (n : Nat) (L l : List Int) : Nat := (List.range n).countP fun v => decide (l.getD v 0 = L.getD v 0)
theorem countP_lt {p q : Nat → Bool} : ∀ {m : List Nat}, (∀ x, x ∈ m → p x = true → q x = true) → (∃ x, x ∈ m ∧ p x = false ∧ q x = true) → m.countP p < m.countP q
  | [], _, ⟨x, hx, _⟩ => by cases hx
  | a :: m, h, ⟨x, hx, hp, hq⟩ => by
    rw [List.countP_cons, List.countP_cons]
    have hle : m.countP p ≤ m.countP q := List.countP_mono_left fun y hy => h y (List.mem_cons_of_mem _ hy)
    rcases List.mem_cons.1 hx with rfl | hx
    · rw [if_neg (by simp [hp]), if_pos hq]; omega
    · have := countP_lt (fun y hy => h y (List.mem_cons_of_mem _ hy)) ⟨x, hx, hp, hq⟩
      have ha := h a (List.mem_cons_self ..)
      cases hpa : p a with
      | true => rw [ha hpa]; simp; omega
      | false => cases hqa : q a <;> simp <;> omega
theorem con_step {D : Int → Prop} {u v : Int} (h : Con E u v) (hu : D u) (hv : ¬ D v) : ∃ x y : Int, D x ∧ ¬ D y ∧ ((x, y) ∈ E ∨ (y, x) ∈ E) := by
  induction h with
  | refl => exact absurd hu hv
  | @fwd a b _ he ih =>
    by_cases hb : D a
    · exact ⟨_, _, hb, hv, .inl he⟩
    · exact ih hb
  | @bwd a b _ he ih =>
    by_cases hb : D a
    · exact ⟨_, _, hb, hv, .inr he⟩
    · exact ih hb
def lrnds (E : List (Int × Int)) : Nat → List Int → List Int
  | 0, l => l
  | k + 1, l => lrnds E k (Go.Fw.lrnd E l)
/-- A round that does not end it makes one more vertex right. -/
theorem lrnd_more (hL : Lab n E L) (hE : EIn n E) {l : List Int} (h : Dn n E l) (hs : ∀ v : Nat, v < n → L.getD v 0 = v → l.getD v 0 = v) (hne : l ≠ L) :
    cntD n L l < cntD n L (Go.Fw.lrnd E l) := by
  obtain ⟨k1, k2, k3⟩ := Dn.rnd hL hE E l (fun _ h => h) h
  have stay : ∀ v : Nat, v < n → l.getD v 0 = L.getD v 0 → (Go.Fw.lrnd E l).getD v 0 = L.getD v 0 := by
    intro v hv hd
    have hg := k1.ge hL (getD_at (i := v) (by rw [k1.1]; exact hv)) (getD_at (l := L) (i := v) (by rw [hL.1]; exact hv))
    have := k2 v
    omega
  have : ∃ v : Nat, v < n ∧ l.getD v 0 ≠ L.getD v 0 := by
    apply Classical.byContradiction
    intro hn
    apply hne
    apply List.ext_getElem?
    intro i
    by_cases hi : i < n
    · rw [getD_at (l := l) (i := i) (by rw [h.1]; exact hi), getD_at (l := L) (i := i) (by rw [hL.1]; exact hi)]
      congr 1
      exact Classical.byContradiction fun hc => hn ⟨i, hi, hc⟩
    · rw [List.getElem?_eq_none (by rw [h.1]; omega), List.getElem?_eq_none (by rw [hL.1]; omega)]
  obtain ⟨v, hv, hnd⟩ := this
  have gL := getD_at (l := L) (i := v) (by rw [hL.1]; exact hv)
  have hm := hL.lt gL
  have hself := hL.self gL
  have hcon := (hL.2 v _ gL).1
  obtain ⟨x, y, hx, hy, he⟩ := con_step (D := fun z : Int => 0 ≤ z ∧ z < n ∧ l.getD z.toNat 0 = L.getD z.toNat 0) hcon.symm
    ⟨hm.1, hm.2, by
      have e1 : L.getD (L.getD v 0).toNat 0 = L.getD v 0 := by rw [List.getD_eq_getElem?_getD (i := (L.getD v 0).toNat), hself]; rfl
      rw [e1, hs (L.getD v 0).toNat (by omega) (by rw [e1]; omega)]; omega⟩
    (fun hd => hnd (by simpa using hd.2.2))
  refine countP_lt (fun z hz hp => ?_) ⟨y.toNat, ?_, ?_, ?_⟩
  · simp only [decide_eq_true_eq] at hp ⊢
    exact stay z (List.mem_range.1 hz) hp
  · rw [List.mem_range]
    rcases he with he | he <;> have := hE _ he <;> simp only at this <;> omega
  · simp only [decide_eq_false_iff_not]
    intro hd
    apply hy
    rcases he with he | he <;> have := hE _ he <;> simp only at this <;> exact ⟨by omega, by omega, hd⟩
  · simp only [decide_eq_true_eq]
    rcases he with he | he
    · exact (k3 _ he).1 hx.2.2
    · exact (k3 _ he).2 hx.2.2
theorem lrnds_end (hL : Lab n E L) (hE : EIn n E) : ∀ (k : Nat) (l : List Int), Dn n E l → (∀ v : Nat, v < n → L.getD v 0 = v → l.getD v 0 = v) → n ≤ cntD n L l + k → lrnds E k l = L
  | 0, l, h, hs, hc => by
    have hall : cntD n L l = n := by
      have : cntD n L l ≤ (List.range n).length := List.countP_le_length
      rw [List.length_range] at this; omega
    apply Classical.byContradiction
    intro hne
    have := lrnd_more hL hE h hs hne
    have : cntD n L (Go.Fw.lrnd E l) ≤ (List.range n).length := List.countP_le_length
    rw [List.length_range] at this
    omega
  | k + 1, l, h, hs, hc => by
    obtain ⟨k1, k2, _⟩ := Dn.rnd hL hE E l (fun _ h => h) h
    refine lrnds_end hL hE k (Go.Fw.lrnd E l) k1 (fun v hv e => ?_) ?_
    · have hg := k1.ge hL (getD_at (i := v) (by rw [k1.1]; exact hv)) (getD_at (l := L) (i := v) (by rw [hL.1]; exact hv))
      have := k2 v
      have := hs v hv e
      omega
    · by_cases hne : l = L
      · subst hne
        have : cntD n l (Go.Fw.lrnd E l) = n := by
          unfold cntD
          rw [show n = (List.range n).length from by simp, ← List.length_range (n := n), List.countP_eq_length.2]
          · simp
          · intro v hv
            simp only [List.length_range, List.mem_range] at hv
            simp only [decide_eq_true_eq]
            have hg := k1.ge hL (getD_at (i := v) (by rw [k1.1]; exact hv)) (getD_at (l := l) (i := v) (by rw [hL.1]; exact hv))
            have := k2 v
            omega
        omega
      · have := lrnd_more hL hE h hs hne
        omega
/-- So many rounds as there are vertices make the labels. -/
theorem lrnds_labs (hE : EIn n E) : lrnds E n (lab0 n) = labs n E := by
  refine lrnds_end (labs_ok hE) hE n (lab0 n) ⟨lab0_len n, fun v x h => ?_⟩ (fun v hv e => ?_) (by omega)
  · obtain ⟨_, rfl⟩ := lab0_get h
    exact ⟨.refl _, Int.natCast_nonneg v⟩
  · have := getD_at (l := lab0 n) (i := v) (by rw [lab0_len]; exact hv)
    exact (lab0_get this).2
end
theorem h_sl01In (a b c : Int) : g_sl01In (a, b, c) = some (decide (b ≤ a) && decide (a ≤ c), ()) := by
  show f_sl01In BIG _ = _
  rw [e_sl01In]
  cases decide (b ≤ a) <;> rfl
theorem h_iin (a b c : Int) : g_iin (a, b, c) = some (decide (b ≤ a) && decide (a ≤ c), ()) := by
  show f_iin BIG _ = _
  rw [e_iin]
  cases decide (b ≤ a) <;> rfl
abbrev Ed := Int × Int
theorem foldl_filter {α : Type} (p : α → Bool) : ∀ (l : List α) (s : List α), l.foldl (fun s y => if p y then s ++ [y] else s) s = s ++ l.filter p
  | [], s => by simp
  | y :: l, s => by
    rw [List.foldl_cons, foldl_filter p l]
    cases h : p y <;> simp [h]
abbrev Sd := Int × Int × Int × Int × Int × Int
def inB (a b c : Int) : Bool := decide (b ≤ a) && decide (a ≤ c)
theorem h_sl01In' (a b c : Int) : g_sl01In (a, b, c) = some (inB a b c, ()) := h_sl01In a b c
theorem h_iin' (a b c : Int) : g_iin (a, b, c) = some (inB a b c, ()) := h_iin a b c
theorem inB_t {a b c : Int} : inB a b c = true ↔ b ≤ a ∧ a ≤ c := by simp [inB]
def edB (n : Int) (e : Ed) : Bool := inB n 1 12 && (inB e.1 0 (n - 1) && (inB e.2 0 (n - 1) && decide (e.1 < e.2)))
theorem h_iEdgeOk (n : Int) (e : Ed) : g_iEdgeOk (n, e) = some (edB n e, ()) := by
  show f_iEdgeOk BIG _ = _
  rw [e_iEdgeOk, h_iin', Option.bind_some]
  unfold edB
  cases h : inB n 1 12 with
  | false => rfl
  | true =>
    have := inB_t.1 h
    rw [wr (by omega) (by omega)]
    simp only [h_iin', Option.bind_some, cond_true, Bool.true_and]
    cases inB e.1 0 (n - 1) <;> cases inB e.2 0 (n - 1) <;> rfl
theorem h_sEdgeOk (n : Int) (e : Ed) : g_sEdgeOk (n, e) = some (edB n e, ()) := by
  show f_sEdgeOk BIG _ = _
  rw [e_sEdgeOk, h_sl01In', Option.bind_some]
  unfold edB
  cases h : inB n 1 12 with
  | false => rfl
  | true =>
    have := inB_t.1 h
    rw [wr (by omega) (by omega)]
    simp only [h_sl01In', Option.bind_some, cond_true, Bool.true_and]
    cases inB e.1 0 (n - 1) <;> cases inB e.2 0 (n - 1) <;> rfl
def lsB (x y : Ed) : Bool := decide (x.1 < y.1) || (decide (x.1 = y.1) && decide (x.2 < y.2))
theorem h_iahead (x y : Ed) : g_iahead (x, y) = some (lsB x y, ()) := by
  show f_iahead BIG _ = _
  rw [e_iahead]
  unfold lsB
  cases decide (x.1 < y.1) <;> cases decide (x.1 = y.1) <;> rfl
theorem h_sl05Less (x y : Ed) : g_sl05Less (x, y) = some (lsB x y, ()) := by
  show f_sl05Less BIG _ = _
  rw [e_sl05Less]
  unfold lsB
  cases decide (x.1 < y.1) <;> cases decide (x.1 = y.1) <;> rfl
def eP (n : Int) (es : List Ed) (i : Nat) : Bool := match es[i]? with
  | some y => edB n y && (match i with
    | 0 => true
    | j + 1 => match es[j]? with
      | some x => lsB x y
      | none => false)
  | none => false
theorem eP_0 {n : Int} {es : List Ed} {y : Ed} (h : es[0]? = some y) : eP n es 0 = edB n y := by
  unfold eP; rw [h]; simp
theorem eP_s {n : Int} {es : List Ed} {x y : Ed} {j : Nat} (h : es[j + 1]? = some y) (h' : es[j]? = some x) : eP n es (j + 1) = (edB n y && lsB x y) := by
  unfold eP; rw [h]; simp only [h']
def eOk (n : Int) (es : List Ed) : Bool := if ∀ i, i < es.length → eP n es i = true then decide ((es.length : Int) ≤ 66) else false
theorem eOk_len {n : Int} {es : List Ed} (h : eOk n es = true) : es.length ≤ 66 := by
  unfold eOk at h
  split at h
  · rw [decide_eq_true_eq] at h; omega
  · cases h
theorem h_iedgesOk (n : Int) (es : List Ed) (hl : es.length ≤ 1048576) : g_iedgesOk (n, es) = some (eOk n es, ()) := by
  have hm : maxLen = 9223372036854775807 := by decide
  show f_iedgesOk BIG _ = _
  rw [e_iedgesOk, allLoop es (by omega) (eP n es) false]
  · unfold eOk
    split <;> rfl
  · intro self i y hy
    have hi := (List.getElem?_eq_some_iff.1 hy).1
    simp only [show ((i : Int) < (es.length : Int)) from by omega, decide_true, cond_true]
    rw [bnd_nat hi, hy, Option.bind_some, h_iEdgeOk, wr1 (by omega)]
    cases i with
    | zero =>
      rw [eP_0 hy]
      cases edB n y <;> simp
    | succ j =>
      have hj : es[j]? = some (es[j]'(by omega)) := List.getElem?_eq_getElem (by omega)
      rw [eP_s hy hj, show (((j + 1 : Nat) : Int) - 1) = (j : Int) from by omega, wr (n := (j : Int)) (by omega) (by omega)]
      cases hb : edB n y with
      | false => simp
      | true =>
        simp only [Option.bind_some, Bool.not_true, cond_false, show (0 : Int) < ((j + 1 : Nat) : Int) from by omega, decide_true, cond_true, Bool.true_and]
        rw [bnd_nat (by omega), hj]
        simp only [Option.bind_some]
        simp only [Option.bind_some, h_iahead]
        cases lsB _ y <;> rfl
  · intro self
    simp
theorem h_sl05Edges (n : Int) (es : List Ed) (hl : es.length ≤ 1048576) : g_sl05Edges (n, es) = some (eOk n es, ()) := by
  have hm : maxLen = 9223372036854775807 := by decide
  show f_sl05Edges BIG _ = _
  rw [e_sl05Edges, allLoop es (by omega) (eP n es) false]
  · unfold eOk
    split <;> rfl
  · intro self i y hy
    have hi := (List.getElem?_eq_some_iff.1 hy).1
    simp only [show ((i : Int) < (es.length : Int)) from by omega, decide_true, cond_true]
    rw [bnd_nat hi, hy, Option.bind_some, h_sEdgeOk, wr1 (by omega)]
    cases i with
    | zero =>
      rw [eP_0 hy]
      cases edB n y <;> simp
    | succ j =>
      have hj : es[j]? = some (es[j]'(by omega)) := List.getElem?_eq_getElem (by omega)
      rw [eP_s hy hj, show (((j + 1 : Nat) : Int) - 1) = (j : Int) from by omega, wr (n := (j : Int)) (by omega) (by omega)]
      cases hb : edB n y with
      | false => simp
      | true =>
        simp only [Option.bind_some, Bool.not_true, cond_false, show (0 : Int) < ((j + 1 : Nat) : Int) from by omega, decide_true, cond_true, Bool.true_and]
        rw [bnd_nat (by omega), hj]
        simp only [Option.bind_some]
        rw [bnd_nat hi, hy]
        simp only [Option.bind_some, h_sl05Less]
        cases lsB _ y <;> rfl
  · intro self
    simp
abbrev Or' := Int × Int × List (Int × Int) × Int
def ordB (n : Int) (o : Or') : Bool := inB n 1 12 && (inB o.1 1 100000 && (inB o.2.1 1 4 && (eOk n o.2.2.1 && (if o.2.1 = 3 then decide (o.2.2.1.length = 0) && inB o.2.2.2 0 (n - 1) else if o.2.1 = 4 then decide (0 < o.2.2.1.length) && decide (o.2.2.2 = 0) else decide (o.2.2.1.length = 1) && decide (o.2.2.2 = 0)))))
def lbP (l : List Int) (i : Nat) : Bool := match l[i]? with
  | some y => inB y 0 i && (match l[y.toNat]? with
    | some z => decide (z = y)
    | none => false)
  | none => false
def lbOk (n : Int) (l : List Int) : Bool := if (l.length : Int) = n then (if ∀ i, i < l.length → lbP l i = true then true else false) else false
abbrev An := Int × Bool × List (Int × Int) × List Int
def ansB (n : Int) (o : An) : Bool := inB n 1 12 && (inB o.1 1 100000 && (eOk n o.2.2.1 && lbOk n o.2.2.2))
theorem lsB_irrefl (x : Ed) : lsB x x = false := by simp [lsB]
theorem lsB_iff (x y : Ed) : lsB x y = true ↔ x.1 < y.1 ∨ (x.1 = y.1 ∧ x.2 < y.2) := by simp [lsB]
theorem lsB_trans {x y z : Ed} (h : lsB x y = true) (h' : lsB y z = true) : lsB x z = true := by
  rw [lsB_iff] at *; omega
theorem lsB_tri {x y : Ed} (h : lsB x y = false) (h' : lsB y x = false) : x = y := by
  have h1 : ¬ lsB x y = true := by simp [h]
  have h2 : ¬ lsB y x = true := by simp [h']
  rw [lsB_iff] at h1 h2
  exact Prod.ext (by omega) (by omega)
theorem lsB_asymm {x y : Ed} (h : lsB x y = true) : lsB y x = false := by
  cases h' : lsB y x with
  | false => rfl
  | true => have := lsB_trans h h'; rw [lsB_irrefl] at this; cases this
abbrev Srt (l : List Ed) : Prop := l.Pairwise (fun x y => lsB x y = true)
theorem srt_eq : ∀ {a b : List Ed}, Srt a → Srt b → (∀ x, x ∈ a ↔ x ∈ b) → a = b
  | [], [], _, _, _ => rfl
  | [], y :: b, _, _, h => absurd ((h y).2 (by simp)) (by simp)
  | x :: a, [], _, _, h => absurd ((h x).1 (by simp)) (by simp)
  | x :: a, y :: b, ha, hb, h => by
    rw [Srt, List.pairwise_cons] at ha hb
    have hxy : x = y := by
      have h1 := (h x).1 (by simp)
      have h2 := (h y).2 (by simp)
      rcases List.mem_cons.1 h1 with h1 | h1
      · exact h1
      · rcases List.mem_cons.1 h2 with h2 | h2
        · exact h2.symm
        · have k1 := hb.1 x h1
          have k2 := ha.1 y h2
          rw [lsB_asymm k1] at k2; cases k2
    subst hxy
    congr 1
    refine srt_eq ha.2 hb.2 fun z => ⟨fun hz => ?_, fun hz => ?_⟩
    · rcases List.mem_cons.1 ((h z).1 (by simp [hz])) with h1 | h1
      · subst h1; have := ha.1 z hz; rw [lsB_irrefl] at this; cases this
      · exact h1
    · rcases List.mem_cons.1 ((h z).2 (by simp [hz])) with h1 | h1
      · subst h1; have := hb.1 z hz; rw [lsB_irrefl] at this; cases this
      · exact h1
def ins (l : List Ed) (e : Ed) : List Ed := l.filter (fun y => lsB y e) ++ [e] ++ l.filter (fun y => lsB e y)
theorem ins_mem {l : List Ed} {e x : Ed} : x ∈ ins l e ↔ x = e ∨ x ∈ l := by
  simp only [ins, List.mem_append, List.mem_filter, List.mem_singleton]
  constructor
  · rintro ((h | h) | h)
    · exact .inr h.1
    · exact .inl h
    · exact .inr h.1
  · rintro (h | h)
    · exact .inl (.inr h)
    · cases h1 : lsB x e with
      | true => exact .inl (.inl ⟨h, rfl⟩)
      | false =>
        cases h2 : lsB e x with
        | true => exact .inr ⟨h, rfl⟩
        | false => exact .inl (.inr (lsB_tri h1 h2))
theorem ins_srt {l : List Ed} {e : Ed} (h : Srt l) : Srt (ins l e) := by
  simp only [ins, Srt, List.append_assoc, List.pairwise_append, List.singleton_append, List.pairwise_cons]
  refine ⟨h.filter _, ⟨fun y hy => (List.mem_filter.1 hy).2, h.filter _⟩, fun x hx y hy => ?_⟩
  have h1 := (List.mem_filter.1 hx).2
  rcases List.mem_cons.1 hy with hy | hy
  · subst hy; exact h1
  · exact lsB_trans h1 (List.mem_filter.1 hy).2
theorem filter_two_len (e : Ed) : ∀ l : List Ed, (l.filter (fun y => lsB y e)).length + (l.filter (fun y => lsB e y)).length ≤ l.length
  | [] => by simp
  | y :: l => by
    have := filter_two_len e l
    simp only [List.filter_cons]
    cases h1 : lsB y e <;> cases h2 : lsB e y <;> simp
    · omega
    · omega
    · omega
    · rw [lsB_asymm h1] at h2; cases h2
theorem ins_len (l : List Ed) (e : Ed) : (ins l e).length ≤ l.length + 1 := by
  have := filter_two_len e l
  simp only [ins, List.length_append, List.length_singleton]
  omega
/-- How many of the first ones are ahead of it. -/
def fdI : List Ed → Ed → Nat
  | [], _ => 0
  | y :: l, e => if lsB y e then fdI l e + 1 else 0
theorem fdI_ins {l : List Ed} {e : Ed} (h : Srt l) (hne : e ∉ l) : l.take (fdI l e) ++ [e] ++ l.drop (fdI l e) = ins l e := by
  induction l with
  | nil => rfl
  | cons y l ih =>
    rw [Srt, List.pairwise_cons] at h
    have ih := ih h.2 (fun hh => hne (by simp [hh]))
    cases h1 : lsB y e with
    | true =>
      have h2 := lsB_asymm h1
      simp only [fdI, h1, if_true, List.take_succ_cons, List.drop_succ_cons, List.cons_append, ih]
      simp only [ins, List.filter_cons, h1, h2, if_true, List.cons_append]
      simp
    | false =>
      have h2 : lsB e y = true := by
        cases h2 : lsB e y with
        | true => rfl
        | false => exact absurd (lsB_tri h1 h2).symm (fun hh => hne (by simp [hh]))
      have h3 : ∀ z, z ∈ l → lsB z e = false ∧ lsB e z = true := fun z hz => by
        have := lsB_trans h2 (h.1 z hz)
        exact ⟨lsB_asymm this, this⟩
      have f1 : l.filter (fun y => lsB y e) = [] := by
        rw [List.filter_eq_nil_iff]; intro z hz; simp [(h3 z hz).1]
      have f2 : l.filter (fun y => lsB e y) = l := by
        rw [List.filter_eq_self]; intro z hz; exact (h3 z hz).2
      simp only [fdI, h1, ins, List.filter_cons, h2, if_true, f1, f2]
      simp
theorem h_sl05Has (l : List Ed) (e : Ed) (hl : l.length ≤ maxLen) : g_sl05Has (l, e) = some (decide (e ∈ l), ()) := by
  show f_sl05Has BIG _ = _
  rw [e_sl05Has, allLoop l (Nat.lt_of_le_of_lt hl maxLen_lt) (fun i => decide (l[i]? ≠ some e)) true (fun self i y hy => by
      have hi := (List.getElem?_eq_some_iff.1 hy).1
      simp only [show ((i : Int) < (l.length : Int)) from by omega, decide_true, cond_true]
      rw [bnd_nat hi, hy, Option.bind_some, wr1 (by omega)]
      obtain ⟨y1, y2⟩ := y
      obtain ⟨e1, e2⟩ := e
      by_cases h1 : y1 = e1 <;> by_cases h2 : y2 = e2 <;> simp [h1, h2]) (fun self => by simp)]
  by_cases h : e ∈ l
  · rw [if_neg, decide_eq_true h]
    · rfl
    · intro hh
      obtain ⟨i, hi⟩ := List.getElem?_of_mem h
      have := hh i (List.getElem?_eq_some_iff.1 hi).1
      rw [decide_eq_true_eq] at this
      exact this hi
  · rw [if_pos, decide_eq_false h]
    · rfl
    · intro i hi
      rw [decide_eq_true_eq]
      exact fun hh => h (List.mem_of_getElem? hh)
theorem h_ihasEdge (l : List Ed) (e : Ed) (hl : l.length ≤ maxLen) : g_ihasEdge (l, e) = some (decide (e ∈ l), ()) := by
  rw [← h_sl05Has l e hl]
  show f_ihasEdge BIG _ = f_sl05Has BIG _
  rw [e_ihasEdge, e_sl05Has]
  all_goals rfl
theorem h_sl05Put (l : List Ed) (e : Ed) (hl : l.length ≤ 1048576) : g_sl05Put (l, e) = some (ins l e, ()) := by
  have hm : maxLen = 9223372036854775807 := by decide
  show f_sl05Put BIG _ = _
  rw [e_sl05Put, foldLoop l (by omega) (fun i (c : List Ed) => c.length ≤ i) (fun c y => if lsB y e then c ++ [y] else c) id (by simp) (fun i c y _ (h : c.length ≤ i) => by show List.length (if _ then _ else _) ≤ _; split <;> (try simp) <;> omega)]
  · rw [foldl_filter]
    simp only [id, List.nil_append, Option.bind_some]
    have h1 := List.length_filter_le (fun y => lsB y e) l
    rw [decide_eq_true (by simp; omega), cond_true, foldLoop l (by omega) (fun i (c : List Ed) => c.length ≤ l.length + 1 + i) (fun c y => if lsB e y then c ++ [y] else c) id (by simp; omega) (fun i c y _ (h : c.length ≤ _) => by show List.length (if _ then _ else _) ≤ _; split <;> (try simp) <;> omega)]
    · rw [foldl_filter]; rfl
    · intro self c i y hy (hc : c.length ≤ _)
      have hi := (List.getElem?_eq_some_iff.1 hy).1
      simp only [show ((i : Int) < (l.length : Int)) from by omega, decide_true, cond_true]
      simp only [bnd_nat hi, hy, Option.bind_some, h_sl05Less, wr1 (show i < maxLen from by omega)]
      cases lsB e y with
      | false => simp
      | true => simp [show c.length + 1 ≤ 4294967296 from by omega]
    · intro self c hc
      simp
  · intro self c i y hy (hc : c.length ≤ i)
    have hi := (List.getElem?_eq_some_iff.1 hy).1
    simp only [show ((i : Int) < (l.length : Int)) from by omega, decide_true, cond_true]
    simp only [bnd_nat hi, hy, Option.bind_some, h_sl05Less, wr1 (show i < maxLen from by omega)]
    cases lsB y e with
    | false => simp
    | true => simp [show c.length + 1 ≤ 4294967296 from by omega]
  · intro self c hc
    simp
theorem fdI_le : ∀ (l : List Ed) (e : Ed), fdI l e ≤ l.length
  | [], _ => by simp [fdI]
  | y :: l, e => by
    have := fdI_le l e
    simp only [fdI, List.length_cons]
    split <;> omega
theorem fdI_at : ∀ {l : List Ed} {e y : Ed} {i : Nat}, i ≤ fdI l e → l[i]? = some y → lsB y e = decide (i < fdI l e)
  | [], _, _, _, _, hy => by simp at hy
  | z :: l, e, y, i, hi, hy => by
    cases hz : lsB z e with
    | false =>
      simp only [fdI, hz] at hi ⊢
      have : i = 0 := by simpa using hi
      subst this
      simp only [List.getElem?_cons_zero, Option.some.injEq] at hy
      subst hy
      simp [hz]
    | true =>
      simp only [fdI, hz, if_true] at hi ⊢
      cases i with
      | zero =>
        simp only [List.getElem?_cons_zero, Option.some.injEq] at hy
        subst hy
        simp [hz]
      | succ i =>
        simp only [List.getElem?_cons_succ] at hy
        rw [fdI_at (by omega) hy]
        simp
theorem h_iwithEdge (l : List Ed) (e : Ed) (hl : l.length ≤ 1048576) : g_iwithEdge (l, e) = some (l.take (fdI l e) ++ [e] ++ l.drop (fdI l e), ()) := by
  have hm : maxLen = 9223372036854775807 := by decide
  have hle := fdI_le l e
  show f_iwithEdge BIG _ = _
  rw [e_iwithEdge, loop_eq (fun (x : Int) => ∃ i : Nat, x = i ∧ i ≤ fdI l e) (fun (x : Int) => l.length - x.toNat) (fun _ => ((fdI l e : Nat) : Int)) (fun self x ⟨i, h1, h2⟩ hs => by
    subst h1
    by_cases hi : i < l.length
    · have hy := List.getElem?_eq_getElem hi
      have hat := fdI_at h2 hy
      simp only [show ((i : Int) < (l.length : Int)) from by omega, decide_true, cond_true]
      simp only [bnd_nat hi, hy, Option.bind_some, h_iahead, wr1 (show i < maxLen from by omega), hat]
      by_cases hlt : i < fdI l e
      · rw [decide_eq_true hlt, cond_true]
        exact hs _ ⟨i + 1, rfl, hlt⟩ (by simp; omega)
      · rw [decide_eq_false hlt, cond_false]
        have : i = fdI l e := by omega
        rw [← this]
    · have : i = l.length := by omega
      have h3 : fdI l e = i := by omega
      rw [h3, this]
      simp) (n := BIG) (x := 0) (by simp [BIG]; omega) ⟨0, rfl, by omega⟩]
  simp only [Option.bind_some, Int.toNat_natCast, Nat.sub_zero, List.drop_zero]
  rw [decide_eq_true (by omega), cond_true, decide_eq_true (by omega), cond_true, decide_eq_true (by simp; omega), cond_true, decide_eq_true (by simp; omega), cond_true, cond_true, decide_eq_true (by omega), cond_true, decide_eq_true (by simp; omega), cond_true]
  congr 3
  rw [List.take_of_length_le]
  simp
theorem and255 (n : Int) : bits .and .i64 n 255 = n % 256 := by
  have h255 : (BitVec.ofInt 64 255).toNat = 2 ^ 8 - 1 := by decide
  have key : (BitVec.ofInt 64 n &&& BitVec.ofInt 64 255).toNat = (n % ((2 ^ 64 : Nat) : Int)).toNat % 2 ^ 8 := by
    rw [BitVec.toNat_and, BitVec.toNat_ofInt, h255, Nat.and_two_pow_sub_one_eq_mod]
  show IntKind.i64.wrap ((BitVec.ofInt 64 n &&& BitVec.ofInt 64 255).toNat : Nat) = n % 256
  rw [key, IntKind.wrap_i64]
  omega
abbrev Cur := List Int × Int × Int
def curOk (c : Cur) : Prop := c.1.length ≤ 1048576 ∧ 0 ≤ c.2.1 ∧ c.2.1 ≤ c.1.length
theorem h_sl01Byte (c : Cur) (hc : curOk c) : ∃ r c', g_sl01Byte c = some (r, c') ∧ curOk c' ∧ 0 ≤ r ∧ r ≤ 255 := by
  have e : g_sl01Byte c = f_sl01Byte BIG c := rfl
  obtain ⟨h1, h2, h3⟩ := hc
  rw [e, e_sl01Byte, decide_eq_false (by decide), cond_false, decide_eq_false (by decide), cond_false]
  simp only [and255]
  by_cases h : c.2.1 < c.1.length
  · rw [decide_eq_true h, cond_true, bnd_ok h2 h, List.getElem?_eq_getElem (by omega), Option.bind_some, Option.bind_some]
    refine ⟨_, _, rfl, ⟨h1, ?_, ?_⟩, Int.emod_nonneg _ (by decide), by omega⟩
    · show 0 ≤ IntKind.wrap .i64 (c.2.1 + 1)
      rw [wr (by omega) (by omega)]; omega
    · show IntKind.wrap .i64 (c.2.1 + 1) ≤ _
      rw [wr (by omega) (by omega)]
      show c.2.1 + 1 ≤ (c.1.length : Int)
      omega
  · rw [decide_eq_false h, cond_false, Option.bind_some]
    exact ⟨_, _, rfl, ⟨h1, h2, h3⟩, Int.emod_nonneg _ (by decide), by omega⟩
theorem h_sl01Below (c : Cur) (n : Int) (hc : curOk c) (hn : n ≤ 1000000) : ∃ r c', g_sl01Below (c, n) = some (r, c') ∧ curOk c' ∧ 0 ≤ r ∧ (0 < n → r < n) ∧ (n ≤ 0 → r = 0) := by
  have e : g_sl01Below (c, n) = f_sl01Below BIG (c, n) := rfl
  rw [e, e_sl01Below]
  by_cases h0 : n ≤ 0
  · rw [decide_eq_true h0]; exact ⟨0, c, rfl, hc, by omega, by omega, fun _ => rfl⟩
  · rw [decide_eq_false h0, cond_false]
    obtain ⟨r1, c1, k1, o1, a1, b1⟩ := h_sl01Byte c hc
    by_cases h1 : n ≤ 256
    · rw [decide_eq_true h1, cond_true, k1, Option.bind_some, decide_eq_false (by omega), cond_false]
      refine ⟨_, _, rfl, o1, Int.tmod_nonneg _ a1, fun _ => ?_, by omega⟩
      show Int.tmod r1 n < n
      exact Int.tmod_lt_of_pos _ (by omega)
    · rw [decide_eq_false h1, cond_false, k1, Option.bind_some]
      obtain ⟨r2, c2, k2, o2, a2, b2⟩ := h_sl01Byte c1 o1
      obtain ⟨r3, c3, k3, o3, a3, b3⟩ := h_sl01Byte c2 o2
      obtain ⟨r4, c4, k4, o4, a4, b4⟩ := h_sl01Byte c3 o3
      simp only [k2, k3, k4, Option.bind_some]
      rw [decide_eq_false (by omega), cond_false]
      refine ⟨_, _, rfl, o4, ?_, fun _ => Int.tmod_lt_of_pos _ (by omega), by omega⟩
      refine Int.tmod_nonneg _ ?_
      rw [wr (n := r1 * 16777216) (by omega) (by omega), wr (n := r2 * 65536) (by omega) (by omega), wr (n := r3 * 256) (by omega) (by omega), wr (n := r1 * 16777216 + r2 * 65536) (by omega) (by omega), wr (n := r1 * 16777216 + r2 * 65536 + r3 * 256) (by omega) (by omega), wr (by omega) (by omega)]
      omega
theorem h_sl05Edge (c : Cur) (n : Int) (hc : curOk c) (hn : 2 ≤ n) (hn' : n ≤ 12) : ∃ e c', g_sl05Edge (c, n) = some (e, c') ∧ curOk c' ∧ edB n e = true := by
  have e : g_sl05Edge (c, n) = f_sl05Edge BIG (c, n) := rfl
  rw [e, e_sl05Edge]
  obtain ⟨r0, c0, k0, o0, a0, b0, _⟩ := h_sl01Below c n hc (by omega)
  obtain ⟨r1, c1, k1, o1, a1, b1, _⟩ := h_sl01Below c0 n o0 (by omega)
  have b0 := b0 (by omega)
  have b1 := b1 (by omega)
  simp only [k0, k1, Option.bind_some]
  have key : ∀ x2 : Int, 0 ≤ x2 → x2 < n → x2 ≠ r0 → ∃ e c', (bif decide (x2 < r0) then some ((x2, r0), c1) else some ((r0, x2), c1)) = some (e, c') ∧ curOk c' ∧ edB n e = true := by
    intro x2 p q hne
    by_cases h : x2 < r0
    · rw [decide_eq_true h]
      refine ⟨_, _, rfl, o1, ?_⟩
      simp only [edB, Bool.and_eq_true, inB_t, decide_eq_true_eq]
      omega
    · rw [decide_eq_false h]
      refine ⟨_, _, rfl, o1, ?_⟩
      simp only [edB, Bool.and_eq_true, inB_t, decide_eq_true_eq]
      omega
  by_cases h : r0 = r1
  · rw [decide_eq_true h, cond_true, decide_eq_false (by omega), cond_false, Option.bind_some, wr (by omega) (by omega)]
    have hm : Int.tmod (r0 + 1) n = if r0 + 1 = n then 0 else r0 + 1 := by
      rw [Int.tmod_eq_emod_of_nonneg (by omega)]
      split
      · rename_i h; rw [h]; exact Int.emod_self
      · exact Int.emod_eq_of_lt (by omega) (by omega)
    rw [hm]
    split
    · exact key 0 (by omega) (by omega) (by omega)
    · exact key _ (by omega) (by omega) (by omega)
  · rw [decide_eq_false h, cond_false, Option.bind_some]
    exact key r1 a1 b1 (fun hh => h hh.symm)
def GrOk (n : Int) (es : List Ed) : Prop := 2 ≤ n ∧ n ≤ 12 ∧ Srt es ∧ (∀ e, e ∈ es → edB n e = true)
theorem eOk_of {n : Int} {es : List Ed} (h : GrOk n es) (hl : es.length ≤ 66) : eOk n es = true := by
  unfold eOk
  rw [if_pos]
  · rw [decide_eq_true_eq]; omega
  · intro i hi
    have hy := List.getElem?_eq_getElem hi
    cases i with
    | zero => rw [eP_0 hy]; exact h.2.2.2 _ (List.getElem_mem _)
    | succ j =>
      have hj := List.getElem?_eq_getElem (show j < es.length by omega)
      rw [eP_s hy hj, h.2.2.2 _ (List.getElem_mem _), Bool.true_and]
      exact List.pairwise_iff_getElem.1 h.2.2.1 j (j + 1) (by omega) (by omega) (by omega)
theorem h_sHasEdge (n : Int) (es : List Ed) (e : Ed) (hl : es.length ≤ maxLen) : g_sHasEdge ((n, es), e) = some (decide (e ∈ es), ()) := by
  show f_sHasEdge BIG _ = _
  rw [e_sHasEdge, h_sl05Has _ _ hl]; rfl
theorem h_iHasEdge (n : Int) (es : List Ed) (e : Ed) (hl : es.length ≤ maxLen) : g_iHasEdge ((n, es), e) = some (decide (e ∈ es), ()) := by
  show f_iHasEdge BIG _ = _
  rw [e_iHasEdge, h_ihasEdge _ _ hl]; rfl
theorem h_sl05Graph (c : Cur) (hc : curOk c) : ∃ n es c', g_sl05Graph c = some ((n, es), c') ∧ curOk c' ∧ GrOk n es ∧ es.length ≤ 16 := by
  have hm : maxLen = 9223372036854775807 := by decide
  have e : g_sl05Graph c = f_sl05Graph BIG c := rfl
  rw [e, e_sl05Graph]
  obtain ⟨r0, c0, k0, o0, a0, b0, _⟩ := h_sl01Below c 11 hc (by omega)
  have b0 := b0 (by omega)
  simp only [k0, Option.bind_some]
  rw [wr (by omega) (by omega)]
  have := loop_rel (F := fun (self2 : (List (Int) × Int × Int) × (Int × List (Int × Int)) × Int → Option ((List (Int) × Int × Int) × (Int × List (Int × Int)))) (x1 : (List (Int) × Int × Int) × (Int × List (Int × Int)) × Int) =>
    Option.bind (g_sl01Below (x1.1, (16 : Int))) fun r3 =>
    bif decide (x1.2.2 < r3.1) then
     Option.bind (Option.bind (g_sl05Edge (r3.2, x1.2.1.1)) fun r4 =>
      Option.bind (g_sHasEdge (x1.2.1, (r4.1.1, r4.1.2))) fun r5 =>
      bif !r5.1 then
       Option.bind (g_sl05Put (x1.2.1.2, (r4.1.1, r4.1.2))) fun r6 =>
       some (r4.2, (x1.2.1.1, r6.1))
      else some (r4.2, x1.2.1) : Option ((List (Int) × Int × Int) × (Int × List (Int × Int)))) fun x7 =>
     self2 (x7.1, x7.2, IntKind.wrap .i64 (x1.2.2 + (1 : Int)))
    else some (r3.2, x1.2.1))
    (fun x => ∃ i : Nat, x.2.2 = i ∧ i ≤ 16 ∧ curOk x.1 ∧ GrOk x.2.1.1 x.2.1.2 ∧ x.2.1.2.length ≤ i) (fun x => 16 - x.2.2.toNat) (fun _ b => curOk b.1 ∧ GrOk b.2.1 b.2.2 ∧ b.2.2.length ≤ 16) (fun self x hx hs => ?_) (n := BIG) (x := (c0, (2 + r0, []), 0)) (by simp [BIG]) ⟨0, rfl, by omega, o0, ⟨by show 2 ≤ 2 + r0; omega, by show 2 + r0 ≤ 12; omega, List.Pairwise.nil, by simp⟩, by simp⟩
  · obtain ⟨b, hb, q1, q2, q3⟩ := this
    rw [hb]
    exact ⟨b.2.1, b.2.2, b.1, rfl, q1, q2, q3⟩
  · obtain ⟨cu, ⟨n, es⟩, iz⟩ := x
    obtain ⟨i, rfl, hi, hcu, hg, hl⟩ := hx
    simp only at hcu hg hl
    obtain ⟨r3, c3, k3, o3, a3, b3, _⟩ := h_sl01Below cu 16 hcu (by omega)
    have b3 := b3 (by omega)
    simp only [k3, Option.bind_some]
    by_cases h : (i : Int) < r3
    · rw [decide_eq_true h, cond_true]
      obtain ⟨e, c4, k4, o4, hed⟩ := h_sl05Edge c3 n o3 hg.1 hg.2.1
      simp only [k4, Option.bind_some]
      rw [h_sHasEdge n es e (by omega), Option.bind_some, wr1 (by omega)]
      by_cases hin : e ∈ es
      · rw [decide_eq_true hin, Bool.not_true, cond_false, Option.bind_some]
        exact hs _ ⟨i + 1, rfl, by omega, o4, hg, by show es.length ≤ _; omega⟩ (by simp; omega)
      · rw [decide_eq_false hin, Bool.not_false, cond_true, h_sl05Put es e (by omega), Option.bind_some, Option.bind_some]
        refine hs _ ⟨i + 1, rfl, by omega, o4, ⟨hg.1, hg.2.1, ins_srt hg.2.2.1, fun x hx => ?_⟩, ?_⟩ (by simp; omega)
        · rcases ins_mem.1 hx with rfl | hx
          · exact hed
          · exact hg.2.2.2 x hx
        · have := ins_len es e
          show (ins es e).length ≤ _
          omega
    · rw [decide_eq_false h, cond_false]
      exact ⟨_, rfl, o3, hg, by show es.length ≤ _; omega⟩
theorem h_sl01New (a : List Int) (ha : a.length ≤ 1048576) : ∃ c, g_sl01New a = some (c, ()) ∧ curOk c := by
  have hm : maxLen = 9223372036854775807 := by decide
  have e : g_sl01New a = f_sl01New BIG a := rfl
  rw [e, e_sl01New]
  have := loop_rel (F := fun (self1 : Int × Int → Option (Int)) (x0 : Int × Int) =>
    Option.bind (bif decide (x0.2 < (a.length : Int)) then
      some (decide (x0.2 < (4000 : Int)))
     else some false : Option (Bool)) fun x2 =>
    bif x2 then
     bnd a.length x0.2 fun n3 =>
     Option.bind a[n3]? fun y4 =>
     self1 (bits .and .i64 (IntKind.wrap .i64 ((IntKind.wrap .i64 ((IntKind.wrap .i64 (x0.1 * (131 : Int))) + (IntKind.wrap .i64 (y4)))) + (7 : Int))) (1073741823 : Int), IntKind.wrap .i64 (x0.2 + (1 : Int)))
    else some x0.1) (fun x => ∃ i : Nat, x.2 = i ∧ i ≤ a.length) (fun x => a.length - x.2.toNat) (fun _ _ => True) (fun self x ⟨i, h1, h2⟩ hs => ?_) (n := BIG) (x := (IntKind.wrap .i64 ((13501 : Int) + (a.length : Int)), 0)) (by simp [BIG]; omega) ⟨0, rfl, by omega⟩
  · obtain ⟨b, hb, _⟩ := this
    rw [hb]
    exact ⟨_, rfl, ha, Int.le_refl _, by simp⟩
  · obtain ⟨z, j⟩ := x
    simp only at h1
    subst h1
    by_cases h : i < a.length
    · by_cases h' : (i : Int) < 4000
      · simp only [show ((i : Int) < (a.length : Int)) from by omega, h', decide_true, cond_true, Option.bind_some]
        rw [bnd_nat h, List.getElem?_eq_getElem h, Option.bind_some, wr1 (by omega)]
        exact hs _ ⟨i + 1, rfl, h⟩ (by simp; omega)
      · simp only [show ((i : Int) < (a.length : Int)) from by omega, h', decide_true, decide_false, cond_true, cond_false, Option.bind_some]
        exact ⟨_, rfl, trivial⟩
    · simp only [show ¬ ((i : Int) < (a.length : Int)) from by omega, decide_false, cond_false, Option.bind_some]
      exact ⟨_, rfl, trivial⟩
def del (es : List Ed) (e : Ed) : List Ed := es.filter (fun y => !decide (y = e))
theorem h_lsameEdges (a b : List Ed) (ha : a.length ≤ maxLen) : g_lsameEdges (a, b) = some (decide (a = b), ()) := by
  show f_lsameEdges BIG _ = _
  rw [e_lsameEdges]
  by_cases hl : a.length = b.length
  · rw [decide_eq_true (by omega), Bool.not_true, cond_false, eqLoop a b ha hl false]
    · by_cases h : a = b <;> simp [h]
    · intro self i x y hx hy
      have hi := (List.getElem?_eq_some_iff.1 hx).1
      simp only [show ((i : Int) < (a.length : Int)) from by omega, decide_true, cond_true]
      rw [bnd_nat hi, hx, Option.bind_some, bnd_nat (by omega), hy, Option.bind_some, wr1 (by omega)]
      obtain ⟨x1, x2⟩ := x
      obtain ⟨y1, y2⟩ := y
      by_cases h1 : x1 = y1 <;> by_cases h2 : x2 = y2 <;> simp [h1, h2]
    · intro self
      simp
  · rw [decide_eq_false (by omega), Bool.not_false, cond_true, decide_eq_false (fun h => hl (by rw [h]))]
theorem del_mem {es : List Ed} {e x : Ed} : x ∈ del es e ↔ x ∈ es ∧ x ≠ e := by simp [del]
theorem del_srt {es : List Ed} {e : Ed} (h : Srt es) : Srt (del es e) := h.filter _
theorem GrOk.ins {n : Int} {es : List Ed} {e : Ed} (h : GrOk n es) (he : edB n e = true) : GrOk n (ins es e) := ⟨h.1, h.2.1, ins_srt h.2.2.1, fun x hx => by
  rcases ins_mem.1 hx with rfl | hx
  · exact he
  · exact h.2.2.2 x hx⟩
theorem GrOk.del {n : Int} {es : List Ed} {e : Ed} (h : GrOk n es) : GrOk n (del es e) := ⟨h.1, h.2.1, del_srt h.2.2.1, fun x hx => h.2.2.2 x (del_mem.1 hx).1⟩
theorem ins_del {es : List Ed} {e : Ed} (h : Srt es) (hin : e ∈ es) : ins (del es e) e = es := srt_eq (ins_srt (del_srt h)) h fun x => by
  rw [ins_mem, del_mem]
  constructor
  · rintro (rfl | h)
    · exact hin
    · exact h.1
  · intro hx
    by_cases hxe : x = e
    · exact .inl hxe
    · exact .inr ⟨hx, hxe⟩
theorem h_lbig (a : List Int) : g_lbig a = some (decide ((1048576 : Int) < (a.length : Int)), ()) := e_lbig BIG a
theorem h_sl01Once (c : Cur) (n : Int) (hc : curOk c) (hn : n ≤ 1000000) : ∃ b c', g_sl01Once (c, n) = some (b, c') ∧ curOk c' := by
  have e : g_sl01Once (c, n) = f_sl01Once BIG (c, n) := rfl
  obtain ⟨r, c', k, o, _⟩ := h_sl01Below c n hc hn
  rw [e, e_sl01Once, k]
  exact ⟨_, _, rfl, o⟩
theorem h_sl01PickInt (c : Cur) (l : List Int) (hc : curOk c) (h0 : 0 < l.length) (hl : l.length ≤ 1000000) : ∃ b c', g_sl01PickInt (c, l) = some (b, c') ∧ curOk c' := by
  have e : g_sl01PickInt (c, l) = f_sl01PickInt BIG (c, l) := rfl
  obtain ⟨r, c', k, o, a, b, _⟩ := h_sl01Below c l.length hc (by omega)
  have b := b (by omega)
  rw [e, e_sl01PickInt, k, Option.bind_some, bnd_ok a b, List.getElem?_eq_getElem (by omega)]
  exact ⟨_, _, rfl, o⟩
abbrev Led := Int × Int × Int × Bool
/-- A loop that counts up to a number and keeps an account. -/
theorem rangeLoop {S B : Type} (n : Nat) (hl : n < 18446744073709551616) {F : (S × Int → Option B) → S × Int → Option B} (I : Nat → S → Prop) (st : Nat → S → S) (R : S → B) {s0 : S} (h0 : I 0 s0)
    (hI : ∀ i s, i < n → I i s → I (i + 1) (st i s)) (hF : ∀ self s (i : Nat), i < n → I i s → F self (s, (i : Int)) = self (st i s, ((i + 1 : Nat) : Int)))
    (hE : ∀ self s, I n s → F self (s, (n : Int)) = some (R s)) : loopT BIG F (s0, 0) = some (R ((List.range n).foldl (fun s i => st i s) s0)) := by
  have hr : ∀ {i y : Nat}, (List.range n)[i]? = some y → i < n ∧ y = i := by
    intro i y h
    have hi := (List.getElem?_eq_some_iff.1 h).1
    rw [List.length_range] at hi
    rw [List.getElem?_range hi] at h
    cases h
    exact ⟨hi, rfl⟩
  refine foldLoop (List.range n) (by rw [List.length_range]; exact hl) I (fun s i => st i s) R h0 (fun i s y hy hi => ?_) (fun self s i y hy hi => ?_) (fun self s hs => ?_)
  · obtain ⟨h1, rfl⟩ := hr hy; exact hI _ _ h1 hi
  · obtain ⟨h1, rfl⟩ := hr hy; exact hF _ _ _ h1 hi
  · rw [List.length_range] at hs ⊢; exact hE _ _ hs
theorem fold_snoc {α : Type} (f : Nat → α) (n : Nat) (s : List α) : (List.range n).foldl (fun s i => s ++ [f i]) s = s ++ (List.range n).map f := by
  induction n with
  | zero => simp
  | succ n ih => rw [List.range_succ, List.foldl_append, ih]; simp
theorem lab0Loop (n : Nat) (hn : n ≤ 1000000) {F : (List Int × Int → Option (List Int)) → List Int × Int → Option (List Int)}
    (hF : ∀ self out (i : Nat), i < n → out.length = i → F self (out, (i : Int)) = self (out ++ [(i : Int)], ((i + 1 : Nat) : Int)))
    (hE : ∀ self out, F self (out, (n : Int)) = some out) : loopT BIG F ([], 0) = some (lab0 n) := by
  rw [rangeLoop n (by omega) (fun i (s : List Int) => s.length = i) (fun i s => s ++ [(i : Int)]) id rfl (fun i s _ h => by simp [h]) (fun self s i hi h => hF self s i hi h) (fun self s _ => hE self s), fold_snoc]
  rfl
theorem h_ifirst (n : Nat) (hn : n ≤ 1000000) : g_ifirst (n : Int) = some (lab0 n, ()) := by
  have hm : maxLen = 9223372036854775807 := by decide
  show f_ifirst BIG _ = _
  rw [e_ifirst, lab0Loop n hn]
  · rfl
  · intro self out i hi hl
    simp only [show ((i : Int) < (n : Int)) from by omega, decide_true, cond_true]
    rw [decide_eq_true (by simp; omega), cond_true, wr1 (by omega)]
  · intro self out
    simp
theorem lrnds_fold (E : List (Int × Int)) (n : Nat) : ∀ l : List Int, (List.range n).foldl (fun s _ => lrnd E s) l = lrnds E n l := by
  have : ∀ (m : Nat) (l : List Int), lrnds E (m + 1) l = lrnd E (lrnds E m l) := by
    intro m
    induction m with
    | zero => intro l; rfl
    | succ m ih => intro l; show lrnds E (m + 1) (lrnd E l) = _; rw [ih]; rfl
  induction n with
  | zero => intro l; rfl
  | succ n ih => intro l; rw [List.range_succ, List.foldl_append, ih, this]; rfl
theorem h_sl05Labels (n : Nat) (E : List (Int × Int)) (hn : n ≤ 12) (hE : EIn n E) (hl : E.length ≤ 4611686018427387904) : g_sl05Labels ((n : Int), E) = some (labs n E, ()) := by
  have hm : maxLen = 9223372036854775807 := by decide
  show f_sl05Labels BIG _ = _
  rw [e_sl05Labels, lab0Loop n (by omega)]
  · rw [Option.bind_some, rangeLoop n (by omega) (fun i (s : List Int) => s.length = n) (fun _ s => lrnd E s) id (lab0_len n) (fun i s _ h => by rw [lrnd_len]; exact h)]
    · rw [lrnds_fold, lrnds_labs hE]; rfl
    · intro self s i hi hs
      simp only [show ((i : Int) < (n : Int)) from by omega, decide_true, cond_true]
      rw [foldLoop E (by omega) (fun _ (s : List Int) => s.length = n) rlE id hs (fun i s y _ h => by rw [rlE_len]; exact h)]
      · rw [Option.bind_some, wr1 (by omega)]; rfl
      · intro self s i y hy hs
        have hi := (List.getElem?_eq_some_iff.1 hy).1
        obtain ⟨h1, h2, h3, h4⟩ := hE y (List.mem_of_getElem? hy)
        have i1 : y.1.toNat < s.length := by omega
        have i2 : y.2.toNat < s.length := by omega
        simp only [show ((i : Int) < (E.length : Int)) from by omega, decide_true, cond_true]
        rw [wr1 (by omega), bnd_nat hi, hy, Option.bind_some, bnd_ok h1 (by omega), getD_at i1, Option.bind_some, bnd_nat hi, hy, Option.bind_some, bnd_ok h3 (by omega), getD_at i2, Option.bind_some]
        unfold rlE
        simp only
        by_cases c1 : s.getD y.1.toNat 0 < s.getD y.2.toNat 0
        · rw [decide_eq_true c1, cond_true, bnd_nat hi, hy, Option.bind_some, bnd_ok h3 (by omega), getD_at i2, Option.bind_some, Option.bind_some, decide_eq_false (by omega), cond_false, if_pos c1, if_neg (by omega)]
          rfl
        · rw [decide_eq_false c1, cond_false, Option.bind_some, if_neg c1]
          by_cases c2 : s.getD y.2.toNat 0 < s.getD y.1.toNat 0
          · rw [decide_eq_true c2, cond_true, bnd_nat hi, hy, Option.bind_some, bnd_ok h1 (by omega), getD_at i1, Option.bind_some, if_pos c2]
            rfl
          · rw [decide_eq_false c2, cond_false, if_neg c2]
            rfl
      · intro self s _
        simp
    · intro self s _
      simp
  · intro self out i hi hl
    simp only [show ((i : Int) < (n : Int)) from by omega, decide_true, cond_true]
    rw [decide_eq_true (by simp; omega), cond_true, wr1 (by omega)]
  · intro self out
    simp
abbrev Hd := Int × List Int × List (Int × Int) × List (List Int) × List Int × Int × Int × Int × Int × Int × Int × Int × List (Int × Int) × Int × List (Int × Int × Int × Int × Int × Int)
def grB (n : Int) (es : List Ed) : Bool := inB n 1 12 && eOk n es
theorem w_iGraphOk (n : Int) (es : List Ed) (hl : es.length ≤ 1048576) : g_iGraphOk (n, es) = some (grB n es, ()) := by
  show f_iGraphOk BIG _ = _
  rw [e_iGraphOk, h_iin', h_iedgesOk n es hl]
  unfold grB
  cases inB n 1 12 <;> rfl
theorem w_sGraphOk (n : Int) (es : List Ed) (hl : es.length ≤ 1048576) : g_sGraphOk (n, es) = some (grB n es, ()) := by
  show f_sGraphOk BIG _ = _
  rw [e_sGraphOk, h_sl01In', h_sl05Edges n es hl]
  unfold grB
  cases inB n 1 12 <;> rfl
theorem eOk_srt {n : Int} {es : List Ed} (h : eOk n es = true) : (∀ e, e ∈ es → edB n e = true) ∧ Srt es ∧ es.length ≤ 66 := by
  have hl := eOk_len h
  unfold eOk at h
  split at h
  case isFalse => cases h
  case isTrue hp =>
  have hc : ∀ i (h : i + 1 < es.length), edB n es[i + 1] = true ∧ lsB es[i] es[i + 1] = true := by
    intro i hi
    have := hp (i + 1) hi
    rw [eP_s (List.getElem?_eq_getElem hi) (List.getElem?_eq_getElem (by omega)), Bool.and_eq_true] at this
    exact this
  have h0 : ∀ i (h : i < es.length), edB n es[i] = true := by
    intro i hi
    cases i with
    | zero => have := hp 0 hi; rwa [eP_0 (List.getElem?_eq_getElem hi)] at this
    | succ i => exact (hc i hi).1
  refine ⟨fun e he => ?_, List.pairwise_iff_getElem.2 fun i j hi hj hij => ?_, hl⟩
  · obtain ⟨i, hi, rfl⟩ := List.getElem_of_mem he
    exact h0 i hi
  · have : ∀ d (h : i + 1 + d < es.length), lsB es[i] es[i + 1 + d] = true := by
      intro d
      induction d with
      | zero => intro h; exact (hc i h).2
      | succ d ih => intro h; exact lsB_trans (ih (by omega)) (hc (i + 1 + d) h).2
    have := this (j - (i + 1)) (by omega)
    simpa [show i + 1 + (j - (i + 1)) = j from by omega] using this
theorem edB_in {n : Nat} {e : Ed} (h : edB (n : Int) e = true) : 0 ≤ e.1 ∧ e.1 < n ∧ 0 ≤ e.2 ∧ e.2 < n ∧ e.1 < e.2 := by
  simp only [edB, Bool.and_eq_true, inB_t, decide_eq_true_eq] at h
  omega
theorem eOk_in {n : Nat} {es : List Ed} (h : eOk (n : Int) es = true) : EIn n es := fun e he => by
  have := edB_in ((eOk_srt h).1 e he)
  exact ⟨this.1, this.2.1, this.2.2.1, this.2.2.2.1⟩
/-- A loop that changes each of a row in its place. -/
theorem mapLoop {α : Type} (a : List α) (f : α → α) (hl : a.length < 18446744073709551616) {F : (List α × Int → Option (List α)) → List α × Int → Option (List α)}
    (hF : ∀ self out (i : Nat) y, out.length = a.length → out[i]? = some y → a[i]? = some y → F self (out, (i : Int)) = self (out.set i (f y), ((i + 1 : Nat) : Int)))
    (hE : ∀ self out, out.length = a.length → F self (out, (a.length : Int)) = some out) : loopT BIG F (a, 0) = some (a.map f) := by
  have := loop_eq (F := F) (fun x => ∃ i : Nat, x.2 = i ∧ i ≤ a.length ∧ x.1 = (a.map f).take i ++ a.drop i) (fun x => a.length - x.2.toNat) (fun _ => a.map f) (fun self x ⟨i, h1, h2, h3⟩ hs => ?_) (n := BIG) (x := (a, 0)) (by simp; exact hl) ⟨0, rfl, by simp, by simp⟩
  · exact this
  · obtain ⟨out, j⟩ := x
    simp only at h1 h3
    subst h1
    have hlen : out.length = a.length := by rw [h3]; simp; omega
    by_cases hi : i < a.length
    · have hy := List.getElem?_eq_getElem hi
      have ho : out[i]? = some a[i] := by
        rw [h3, List.getElem?_append_right (by simp; omega)]
        simp [Nat.min_eq_left (show i ≤ a.length from by omega)]
      rw [hF self out i a[i] hlen ho hy]
      have e := set_take_drop (a := a) (t := a.map f) (i := i) (z := f a[i]) (by simp) hi (by simp [hi])
      rw [← h3] at e
      exact hs _ ⟨i + 1, rfl, hi, e⟩ (by simp; omega)
    · have : i = a.length := by omega
      subst this
      rw [hE self out hlen, h3]
      simp [List.take_of_length_le]
theorem set_self {α : Type} {l : List α} {i : Nat} {y : α} (h : l[i]? = some y) : l.set i y = l := by
  apply List.ext_getElem?
  intro j
  rw [List.getElem?_set]
  split
  · subst j
    have := (List.getElem?_eq_some_iff.1 h).1
    simp [this, h.symm]
  · rfl
theorem h_iunion (l : List Int) (a b : Int) (ha : 0 ≤ a) (ha' : a < l.length) (hb : 0 ≤ b) (hb' : b < l.length) (hl : l.length ≤ 1048576) :
    g_iunion (l, a, b) = some (!decide (l.getD a.toNat 0 = l.getD b.toNat 0), unE l (a, b)) := by
  have hm : maxLen = 9223372036854775807 := by decide
  show f_iunion BIG _ = _
  rw [e_iunion, bnd_ok ha ha', getD_at (by omega), Option.bind_some, bnd_ok hb hb', getD_at (by omega), Option.bind_some]
  unfold unE
  simp only
  generalize l.getD a.toNat 0 = x
  generalize l.getD b.toNat 0 = y
  by_cases h : x = y
  · subst h
    rw [decide_eq_true rfl, cond_true, unL_same]; rfl
  · rw [decide_eq_false h, cond_false, mapLoop l (fun z => if z = (if y > x then y else x) then (if y < x then y else x) else z) (by omega)]
    · rfl
    · intro self out i z hlo ho hz
      have hi := (List.getElem?_eq_some_iff.1 hz).1
      simp only [show ((i : Int) < (l.length : Int)) from by omega, decide_true, cond_true]
      rw [bnd_nat (by omega), ho, Option.bind_some, wr1 (by omega)]
      by_cases hc : z = (if y > x then y else x)
      · rw [decide_eq_true hc, cond_true, bnd_nat (by omega), ho, Option.bind_some, if_pos hc]; rfl
      · rw [decide_eq_false hc, cond_false, if_neg hc, set_self ho]; rfl
    · intro self out hlo
      simp
theorem h_iLabels (n : Nat) (es : List Ed) (hl : es.length ≤ 1048576) : g_iLabels ((n : Int), es) = some (if grB n es then labs n es else [], ()) := by
  have hm : maxLen = 9223372036854775807 := by decide
  show f_iLabels BIG _ = _
  rw [e_iLabels, w_iGraphOk _ _ hl, Option.bind_some]
  cases hg : grB n es with
  | false => rfl
  | true =>
    simp only [grB, Bool.and_eq_true, inB_t] at hg
    have hin := eOk_in hg.2
    simp only [Bool.not_true, cond_false]
    rw [h_ifirst n (by omega), Option.bind_some, foldLoop es (by omega) (fun _ (s : List Int) => s.length = n) unE id (lab0_len n) (fun i s y _ h => by rw [unE_len]; exact h)]
    · rfl
    · intro self s i y hy hs
      have hi := (List.getElem?_eq_some_iff.1 hy).1
      have he := hin y (List.mem_of_getElem? hy)
      simp only [show ((i : Int) < (es.length : Int)) from by omega, decide_true, cond_true]
      rw [bnd_nat hi, hy, Option.bind_some, h_iunion s y.1 y.2 he.1 (by omega) he.2.2.1 (by omega) (by omega), Option.bind_some, wr1 (by omega)]
    · intro self s _
      simp
theorem h_sLabels (n : Nat) (es : List Ed) (hl : es.length ≤ 1048576) : g_sLabels ((n : Int), es) = some (if grB n es then labs n es else [], ()) := by
  show f_sLabels BIG _ = _
  rw [e_sLabels, w_sGraphOk _ _ hl, Option.bind_some]
  cases hg : grB n es with
  | false => rfl
  | true =>
    simp only [grB, Bool.and_eq_true, inB_t] at hg
    simp only [Bool.not_true, cond_false]
    rw [h_sl05Labels n es (by omega) (eOk_in hg.2) (by omega)]; rfl
def tgB (n : Int) (es : List Ed) (a b : Int) : Bool := grB n es && (inB a 0 (n - 1) && (inB b 0 (n - 1) && decide ((labs n.toNat es).getD a.toNat 0 = (labs n.toNat es).getD b.toNat 0)))
theorem h_iTogether (n : Int) (es : List Ed) (a b : Int) (hl : es.length ≤ 1048576) : g_iTogether ((n, es), a, b) = some (tgB n es a b, ()) := by
  show f_iTogether BIG _ = _
  rw [e_iTogether, w_iGraphOk _ _ hl, Option.bind_some]
  unfold tgB
  cases hg : grB n es with
  | false => rfl
  | true =>
    have hg' := hg
    simp only [grB, Bool.and_eq_true, inB_t] at hg'
    obtain ⟨N, rfl⟩ : ∃ N : Nat, n = N := ⟨n.toNat, by omega⟩
    simp only [Bool.not_true, cond_false, h_iin', Option.bind_some]
    rw [wr (by omega) (by omega)]
    cases ha : inB a 0 ((N : Int) - 1) with
    | false => rfl
    | true =>
      cases hb : inB b 0 ((N : Int) - 1) with
      | false => rfl
      | true =>
        rw [inB_t] at ha hb
        simp only [Bool.not_true, cond_false, Option.bind_some]
        rw [h_iLabels N es hl, hg, if_pos rfl, Option.bind_some]
        have h1 : a.toNat < (labs N es).length := by rw [labs_len]; omega
        have h2 : b.toNat < (labs N es).length := by rw [labs_len]; omega
        simp only
        rw [bnd_ok ha.1 (by omega), getD_at h1, Option.bind_some, bnd_ok hb.1 (by omega), getD_at h2, Option.bind_some]
        rfl
theorem h_sTogether (n : Int) (es : List Ed) (a b : Int) (hl : es.length ≤ 1048576) : g_sTogether ((n, es), a, b) = some (tgB n es a b, ()) := by
  show f_sTogether BIG _ = _
  rw [e_sTogether]
  unfold tgB
  have hs : g_sLabels (n, es) = f_sLabels BIG (n, es) := rfl
  cases hg : grB n es with
  | false =>
    rw [hs, e_sLabels, w_sGraphOk _ _ hl, hg]
    simp only [Option.bind_some, Bool.not_false, cond_true, List.length_nil, h_sl01In']
    rw [wr (by simp) (by simp)]
    have : inB a 0 (((0 : Nat) : Int) - 1) = false := by
      cases h : inB a 0 (((0 : Nat) : Int) - 1) with
      | false => rfl
      | true => rw [inB_t] at h; omega
    rw [this]; rfl
  | true =>
    have hg' := hg
    simp only [grB, Bool.and_eq_true, inB_t] at hg'
    obtain ⟨N, rfl⟩ : ∃ N : Nat, n = N := ⟨n.toNat, by omega⟩
    rw [h_sLabels N es hl, hg, if_pos rfl, Option.bind_some]
    simp only [labs_len, h_sl01In', Option.bind_some]
    rw [wr (by omega) (by omega)]
    cases ha : inB a 0 ((N : Int) - 1) with
    | false => rfl
    | true =>
      cases hb : inB b 0 ((N : Int) - 1) with
      | false => rfl
      | true =>
        rw [inB_t] at ha hb
        simp only [cond_true, Option.bind_some]
        have h1 : a.toNat < (labs N es).length := by rw [labs_len]; omega
        have h2 : b.toNat < (labs N es).length := by rw [labs_len]; omega
        rw [bnd_ok ha.1 (by omega), getD_at h1, Option.bind_some, bnd_ok hb.1 (by omega), getD_at h2, Option.bind_some]
        rfl
def addR (n : Int) (es : List Ed) (e : Ed) : Int × List Ed × Bool := if grB n es && (edB n e && !decide (e ∈ es)) then (n, ins es e, true) else (0, [], false)
def takR (n : Int) (es : List Ed) (e : Ed) : Int × List Ed × Bool := if grB n es && decide (e ∈ es) then (n, del es e, true) else (0, [], false)
theorem w_iAddEdge (n : Int) (es : List Ed) (e : Ed) (hl : es.length ≤ 1048576) : g_iAddEdge ((n, es), e) = some (addR n es e, ()) := by
  have hm : maxLen = 9223372036854775807 := by decide
  show f_iAddEdge BIG _ = _
  rw [e_iAddEdge, w_iGraphOk n es hl, h_iEdgeOk, h_iHasEdge n es e (by omega), h_iwithEdge es e hl]
  unfold addR
  cases hg : grB n es with
  | false => rfl
  | true =>
    cases he : edB n e with
    | false => rfl
    | true =>
      by_cases hin : e ∈ es
      · rw [decide_eq_true hin]; rfl
      · simp only [grB, Bool.and_eq_true] at hg
        rw [decide_eq_false hin, fdI_ins (eOk_srt hg.2).2.1 hin]; rfl
theorem w_sAddEdge (n : Int) (es : List Ed) (e : Ed) (hl : es.length ≤ 1048576) : g_sAddEdge ((n, es), e) = some (addR n es e, ()) := by
  have hm : maxLen = 9223372036854775807 := by decide
  show f_sAddEdge BIG _ = _
  rw [e_sAddEdge, w_sGraphOk n es hl, h_sEdgeOk, h_sHasEdge n es e (by omega), h_sl05Put es e hl]
  unfold addR
  cases hg : grB n es with
  | false => rfl
  | true =>
    cases he : edB n e with
    | false => rfl
    | true => cases decide (e ∈ es) <;> rfl
theorem h_sl05Without (es : List Ed) (e : Ed) (hl : es.length ≤ 1048576) : g_sl05Without (es, e) = some (del es e, ()) := by
  have hm : maxLen = 9223372036854775807 := by decide
  show f_sl05Without BIG _ = _
  rw [e_sl05Without, foldLoop es (by omega) (fun i (c : List Ed) => c.length ≤ i) (fun c y => if (!decide (y = e)) then c ++ [y] else c) id (by simp) (fun i c y _ (h : c.length ≤ i) => by show List.length (if _ then _ else _) ≤ _; split <;> (try simp) <;> omega)]
  · rw [foldl_filter]; rfl
  · intro self c i y hy (hc : c.length ≤ i)
    have hi := (List.getElem?_eq_some_iff.1 hy).1
    simp only [show ((i : Int) < (es.length : Int)) from by omega, decide_true, cond_true]
    rw [bnd_nat hi, hy, Option.bind_some, wr1 (by omega)]
    have hd : (decide (y.1 = e.1) && (decide (y.2 = e.2) && true)) = decide (y = e) := by
      obtain ⟨y1, y2⟩ := y
      obtain ⟨e1, e2⟩ := e
      by_cases h1 : y1 = e1 <;> by_cases h2 : y2 = e2 <;> simp [h1, h2]
    rw [hd]
    cases decide (y = e) with
    | true => simp
    | false => simp [bnd_nat hi, hy, show c.length + 1 ≤ 4294967296 from by omega]
  · intro self c hc
    simp
theorem w_iwithoutEdge (es : List Ed) (e : Ed) (hl : es.length ≤ 1048576) : g_iwithoutEdge (es, e) = some (del es e, ()) := by
  have hm : maxLen = 9223372036854775807 := by decide
  show f_iwithoutEdge BIG _ = _
  rw [e_iwithoutEdge, foldLoop es (by omega) (fun i (c : List Ed) => c.length ≤ i) (fun c y => if (!decide (y = e)) then c ++ [y] else c) id (by simp) (fun i c y _ (h : c.length ≤ i) => by show List.length (if _ then _ else _) ≤ _; split <;> (try simp) <;> omega)]
  · rw [foldl_filter]; rfl
  · intro self c i y hy (hc : c.length ≤ i)
    have hi := (List.getElem?_eq_some_iff.1 hy).1
    simp only [show ((i : Int) < (es.length : Int)) from by omega, decide_true, cond_true]
    rw [bnd_nat hi, hy, Option.bind_some, wr1 (by omega)]
    have hd : (decide (y.1 = e.1) && (decide (y.2 = e.2) && true)) = decide (y = e) := by
      obtain ⟨y1, y2⟩ := y
      obtain ⟨e1, e2⟩ := e
      by_cases h1 : y1 = e1 <;> by_cases h2 : y2 = e2 <;> simp [h1, h2]
    rw [hd]
    cases decide (y = e) with
    | true => simp
    | false => simp [show c.length + 1 ≤ 4294967296 from by omega]
  · intro self c hc
    simp
theorem w_iTakeEdge (n : Int) (es : List Ed) (e : Ed) (hl : es.length ≤ 1048576) : g_iTakeEdge ((n, es), e) = some (takR n es e, ()) := by
  have hm : maxLen = 9223372036854775807 := by decide
  show f_iTakeEdge BIG _ = _
  rw [e_iTakeEdge, w_iGraphOk n es hl, h_iHasEdge n es e (by omega), w_iwithoutEdge es e hl]
  unfold takR
  cases grB n es <;> cases decide (e ∈ es) <;> rfl
theorem w_sTakeEdge (n : Int) (es : List Ed) (e : Ed) (hl : es.length ≤ 1048576) : g_sTakeEdge ((n, es), e) = some (takR n es e, ()) := by
  have hm : maxLen = 9223372036854775807 := by decide
  show f_sTakeEdge BIG _ = _
  rw [e_sTakeEdge, w_sGraphOk n es hl, h_sHasEdge n es e (by omega), h_sl05Without es e hl]
  unfold takR
  cases grB n es <;> cases decide (e ∈ es) <;> rfl
def edO (a b : Int) : Ed := if a < b then (a, b) else (b, a)
theorem h_iedgeOf (i o a b : Int) : g_iedgeOf (i, o, a, b) = some (edO a b, ()) := by
  show f_iedgeOf BIG _ = _
  rw [e_iedgeOf]
  unfold edO
  dsimp only
  by_cases h : a < b
  · rw [if_neg (by omega), if_pos (by omega), if_pos h]
  · rw [if_neg h]
    by_cases h' : b < a
    · rw [if_pos h', if_neg (by omega)]
    · rw [if_neg h', if_neg (by omega), show a = b from by omega]
theorem h_sl12Edge (i o a b : Int) : g_sl12Edge (i, o, a, b) = some (edO a b, ()) := by
  show f_sl12Edge BIG _ = _
  rw [e_sl12Edge]
  unfold edO
  dsimp only
  by_cases h : a < b
  · rw [decide_eq_true h, cond_true, if_pos h]
  · rw [decide_eq_false h, cond_false, if_neg h]
theorem h_icopyEdges (es : List Ed) (hl : es.length ≤ 1048576) : g_icopyEdges es = some (es, ()) := by
  show f_icopyEdges BIG _ = _
  rw [e_icopyEdges, decide_eq_true (by omega)]; rfl
theorem h_iyesNo (b : Bool) : g_iyesNo b = some (if b then 1 else 2, ()) := by
  show f_iyesNo BIG _ = _
  rw [e_iyesNo]; cases b <;> rfl
/-- What a question makes of a graph. -/
def mdl (n : Int) (es : List Ed) (o a b : Int) : Int × List Ed × Int :=
  if inB o 1 4 && (decide (0 ≤ a) && decide (a < n)) then
    if o = 4 then (n, es, if inB b 1 3 then 1 else 3)
    else if (decide (0 ≤ b) && decide (b < n)) && !(decide (a = b) && !decide (o = 3)) then
      if o = 3 then (n, es, if tgB n es a b then 1 else 2)
      else
        let r := if o = 2 then takR n es (edO a b) else addR n es (edO a b)
        if r.2.2 then (r.1, r.2.1, 1) else (n, es, 2)
    else (n, es, 3)
  else (n, es, 3)
theorem h_sModel (n : Int) (es : List Ed) (i o a b : Int) (hl : es.length ≤ 1048576) : g_sModel ((n, es), i, o, a, b) = some (mdl n es o a b, ()) := by
  show f_sModel BIG _ = _
  rw [e_sModel]
  dsimp only
  rw [decide_eq_true (show 0 + es.length ≤ 4294967296 from by omega), cond_true, h_sl01In', List.nil_append]
  simp only [Option.bind_some]
  unfold mdl
  cases ho : inB o 1 4 with
  | false => rfl
  | true =>
    rw [inB_t] at ho
    by_cases h1 : 0 ≤ a
    · by_cases h2 : a < n
      · simp only [h1, h2, decide_true, Bool.not_true, cond_true, cond_false, Option.bind_some, Bool.and_self, if_true]
        by_cases h4 : o = 4
        · rw [decide_eq_true h4, if_pos h4, cond_true, h_sl01In', Option.bind_some]
          cases inB b 1 3 <;> rfl
        · rw [decide_eq_false h4, if_neg h4, cond_false]
          by_cases h5 : 0 ≤ b
          · by_cases h6 : b < n
            · simp only [h5, h6, decide_true, Bool.not_true, cond_true, cond_false, Bool.true_and]
              by_cases h3 : o = 3
              · subst h3
                simp only [decide_true, Bool.not_true, Bool.and_false, Bool.not_false, if_true, cond_true]
                rw [h_sTogether n es a b hl]
                cases decide (a = b) <;> simp only [cond_true, cond_false, Option.bind_some] <;> cases tgB n es a b <;> rfl
              · simp only [h3, decide_false, Bool.not_false, Bool.and_true, cond_false, if_false]
                by_cases hab : a = b
                · rw [decide_eq_true hab]; rfl
                · rw [decide_eq_false hab]
                  simp only [cond_false, Option.bind_some, Bool.not_false, if_true, h_sl12Edge, w_sAddEdge n es _ hl, w_sTakeEdge n es _ hl]
                  by_cases h2' : o = 2
                  · rw [decide_eq_true h2', if_pos h2', cond_true, Option.bind_some]
                    cases h : (takR n es (edO a b)).2.2 <;> simp [h]
                  · rw [decide_eq_false h2', if_neg h2', cond_false, Option.bind_some]
                    cases h : (addR n es (edO a b)).2.2 <;> simp [h]
            · simp only [h5, h6, decide_true, decide_false, Bool.not_false, cond_true, Option.bind_some, Bool.and_false, Bool.false_and, if_false, Bool.false_eq_true]
          · simp only [h5, decide_false, cond_false, Option.bind_some, cond_true, Bool.false_and, if_false, Bool.false_eq_true]
      · simp only [h1, h2, decide_true, decide_false, Bool.not_true, Bool.not_false, cond_true, cond_false, Option.bind_some, Bool.and_false, if_false, Bool.false_eq_true]
    · simp only [h1, decide_false, Bool.not_true, cond_true, cond_false, Option.bind_some, Bool.and_false, Bool.false_and, if_false, Bool.false_eq_true]
theorem h_iModel (n : Int) (es : List Ed) (i o a b : Int) (hn : n ≤ 9223372036854775807) (hl : es.length ≤ 1048576) : g_iModel ((n, es), i, o, a, b) = some (mdl n es o a b, ()) := by
  show f_iModel BIG _ = _
  rw [e_iModel]
  dsimp only
  rw [h_icopyEdges es hl]
  simp only [Option.bind_some, h_iin']
  have hx : (bif decide (o = (4 : Int)) then some ((1 : Int), (3 : Int)) else some ((0 : Int), IntKind.wrap .i64 (n - (1 : Int))) : Option (Int × Int)) = some (if o = 4 then ((1 : Int), (3 : Int)) else ((0 : Int), IntKind.wrap .i64 (n - (1 : Int)))) := by
    by_cases h : o = 4
    · rw [decide_eq_true h, if_pos h]; rfl
    · rw [decide_eq_false h, if_neg h]; rfl
  rw [hx, Option.bind_some]
  unfold mdl
  by_cases h0 : n < 1
  · rw [decide_eq_true h0, cond_true, Option.bind_some, cond_true]
    have : (decide (0 ≤ a) && decide (a < n)) = false := by
      by_cases h : 0 ≤ a
      · rw [decide_eq_false (show ¬ a < n from by omega), Bool.and_false]
      · rw [decide_eq_false h, Bool.false_and]
    rw [this, Bool.and_false]; rfl
  · rw [decide_eq_false h0, cond_false, wr (by omega) (by omega)]
    cases ho : inB o 1 4 with
    | false => rfl
    | true =>
      rw [inB_t] at ho
      have ha : inB a 0 (n - 1) = (decide (0 ≤ a) && decide (a < n)) := by
        unfold inB
        congr 1
        exact decide_eq_decide.2 (by omega)
      have hb : inB b 0 (n - 1) = (decide (0 ≤ b) && decide (b < n)) := by
        unfold inB
        congr 1
        exact decide_eq_decide.2 (by omega)
      rw [ha]
      simp only [Bool.not_true, cond_false, Bool.true_and]
      cases (decide (0 ≤ a) && decide (a < n)) with
      | false => rfl
      | true =>
        simp only [Bool.not_true, cond_false, if_true]
        by_cases h4 : o = 4
        · subst h4
          simp only [if_true]
          cases inB b 1 3 with
          | false => rfl
          | true => by_cases hab : a = b <;> simp [hab]
        · simp only [h4, if_false]
          rw [hb]
          cases (decide (0 ≤ b) && decide (b < n)) with
          | false => rfl
          | true =>
            simp only [Bool.not_true, cond_false, Bool.true_and]
            by_cases h3 : o = 3
            · subst h3
              rw [h_iTogether n es a b hl]
              simp only [Option.bind_some, h_iyesNo]
              by_cases hab : a = b <;> simp [hab]
            · by_cases h1 : o = 1
              · subst h1
                by_cases hab : a = b
                · simp [hab]
                · simp only [hab, decide_false, cond_false, Option.bind_some, decide_true, cond_true, h_iedgeOf, w_iAddEdge n es _ hl]
                  simp
                  cases h : (addR n es (edO a b)).2.2 <;> simp [h]
              · have h2 : o = 2 := by omega
                subst h2
                by_cases hab : a = b
                · simp [hab]
                · simp only [hab, decide_false, cond_false, Option.bind_some, decide_true, cond_true, h_iedgeOf, w_iTakeEdge n es _ hl]
                  simp
                  cases h : (takR n es (edO a b)).2.2 <;> simp [h]
/-- A byte of a number. -/
def by8 (n : Int) : UInt8 := UInt8.ofNat (n % 256).toNat
def vF : Nat → Nat → List UInt8
  | 0, v => [by8 (v : Int)]
  | k + 1, v => if v ≤ 127 then [by8 (v : Int)] else by8 ((v % 128 + 128 : Nat) : Int) :: vF k (v / 128)
def vB (v : Nat) : List UInt8 := vF 9 v
def e2 (e : Ed) : List UInt8 := [by8 e.1, by8 e.2]
/-- A number read off bytes, of which it takes so many at most; and how many it took. -/
def dec : Nat → List UInt8 → Option (Nat × Nat)
  | 0, _ => none
  | _ + 1, [] => none
  | k + 1, b :: l => if b.toNat < 128 then some (b.toNat, 1) else (dec k l).map fun r => (b.toNat - 128 + 128 * r.1, r.2 + 1)
/-- What is read there, when it is a number in its own bytes. -/
def rdV (l : List UInt8) : Option (Nat × Nat) := match dec 5 l with
  | some (v, m) => if v ≤ 1000000000 ∧ vB v = l.take m then some (v, m) else none
  | none => none
abbrev St := Nat × Bool
def nm (T : List UInt8) (s : St) : Int × St :=
  if s.2 then (0, (s.1, true)) else match rdV (T.drop s.1) with
  | some (v, m) => ((v : Int), (s.1 + m, false))
  | none => (0, (s.1, true))
def on (T : List UInt8) (s : St) : Int × St :=
  if s.2 then (0, (s.1, true)) else match T[s.1]? with
  | some b => ((b.toNat : Int), (s.1 + 1, false))
  | none => (0, (s.1, true))
def edF (T : List UInt8) : Nat → St → List Ed → St × List Ed
  | 0, s, out => (s, out)
  | k + 1, s, out => if s.2 then (s, out) else edF T k (on T (on T s).2).2 (out ++ [((on T s).1, (on T (on T s).2).1)])
def q0 (T : List UInt8) : Int × St := nm T (0, false)
def q1 (T : List UInt8) : Int × St := on T (q0 T).2
def q2 (T : List UInt8) : Int × St := nm T (q1 T).2
def q3 (T : List UInt8) (K : Nat) : St × List Ed := edF T K (nm T (q2 T).2).2 []
def lbF (T : List UInt8) : Nat → St → List Int → St × List Int
  | 0, s, out => (s, out)
  | k + 1, s, out => lbF T k (on T s).2 (out ++ [(on T s).1])
def q4 (T : List UInt8) (K : Nat) : St × List Ed := edF T K (nm T (q1 T).2).2 []
def q5 (T : List UInt8) (K N : Nat) : St × List Int := lbF T N (q4 T K).1 []
def blA (a : An) : Bool := decide (a.1 = 0) && (!a.2.1 && (decide (a.2.2.1.length = 0) && decide (a.2.2.2.length = 0)))
def blO (o : Or') : Bool := decide (o.1 = 0) && (decide (o.2.1 = 0) && (decide (o.2.2.1.length = 0) && decide (o.2.2.2 = 0)))
def blQ (a b c d : Int) : Bool := decide (a = 0) && (decide (b = 0) && (decide (c = 0) && decide (d = 0)))
def sA (l : List Sd) (k : Int) : Int := if l.findIdx (fun y => decide (y.1 = k)) < l.length then (l.findIdx (fun y => decide (y.1 = k)) : Int) else -1
def tB (a b c d sh : Int) (o : Or') : Bool := blQ a b c d && (decide (sh = 0) && blO o)
def rtB (n : Int) (k : Nat) (op a b : Int) : Bool :=
  inB op 1 4 && (inB a 0 (n - 1) && (bif decide (op = 4) then inB b 1 k else inB b 0 (n - 1) && !(decide (a = b) && (decide (op = 1) || decide (op = 2)))))
theorem gD {α : Type} {l : List α} {i : Nat} {y d : α} (h : l[i]? = some y) : l.getD i d = y := by rw [List.getD_eq_getElem?_getD, h]; rfl
def p1 (k : Nat) (l : List Int) (i : Nat) : Bool := inB (l.getD i 0) 1 k
def p2 (own : List Int) (cuts : List Ed) (i : Nat) : Bool := !decide (own.getD (cuts.getD i (0, 0)).1.toNat 0 = own.getD (cuts.getD i (0, 0)).2.toNat 0)
def p3 (n : Int) (L : List (List Int)) (nums : List Int) (i : Nat) : Bool := lbOk n (L.getD i []) && inB (nums.getD i 0) 0 99991
def p4c (l : List Sd) (i : Nat) (y : Sd) : Bool := decide (y.1 = y.2.1) && (inB y.2.2.2.2.2 1 3 && decide (sA l y.1 = (i : Int)))
def p4 (l : List Sd) (i : Nat) : Bool := p4c l i (l.getD i (0, 0, 0, 0, 0, 0))
abbrev oP1 (k : Nat) (l : List Int) : Prop := ∀ i, i < l.length → p1 k l i = true
abbrev oP2 (own : List Int) (cuts : List Ed) : Prop := ∀ i, i < cuts.length → p2 own cuts i = true
abbrev oP3 (n : Int) (L : List (List Int)) (nums : List Int) : Prop := ∀ i, i < L.length → p3 n L nums i = true
abbrev oP4 (l : List Sd) : Prop := ∀ i, i < l.length → p4 l i = true
open Classical in
noncomputable def hdB (n : Int) (own : List Int) (cuts : List Ed) (L : List (List Int)) (nums : List Int) (said : List Sd) (t : Bool) : Bool :=
  decide ((inB n 1 12 = true ∧ inB (L.length : Int) 1 3 = true ∧ nums.length = L.length) ∧ oP3 n L nums ∧ ((own.length : Int) = n ∧ eOk n cuts = true) ∧ oP1 L.length own ∧ oP2 own cuts ∧ (oP4 said ∧ said.length ≤ 80) ∧ t = true)
def tkB (n : Int) (k : Nat) (nums : List Int) (said : List Sd) (id op a b sh : Int) (o : Or') : Bool :=
  tB id op a b sh o || ((inB id 1 100000 && (!decide (op = 3) && rtB n k op a b)) && (inB sh 1 k && (ordB n o && (decide (o.1 = IntKind.wrap .i64 (nums.getD (sh - 1).toNat 0 + 1)) && decide (sA said id < 0)))))
/-- What a row of labels tells: each vertex with its label. -/
def wlV (l : List Int) : List Ed := l.zipIdx.map fun p => (p.1, (p.2 : Int))
def vP (l : List Int) : Bool := l.zipIdx.all fun p => inB p.1 0 (p.2 : Int)
def pL (n : Int) (l : List Int) : Bool := decide ((l.length : Int) = n) && vP l
def wlB (n : Int) (L : List (List Int)) (cuts : List Ed) : Bool := inB n 1 12 && (decide (L.length ≤ 3) && (L.all (pL n) && cuts.all (edB n)))
def wlR (n : Int) (L : List (List Int)) (cuts : List Ed) : List Int × Bool := if wlB n L cuts = true then (labs n.toNat (L.flatMap wlV ++ cuts), true) else ([], false)
theorem zip_at {l : List Int} {i : Nat} {p : Int × Nat} (h : l.zipIdx[i]? = some p) : l[i]? = some p.1 ∧ p.2 = i := by
  rw [List.getElem?_zipIdx] at h
  cases hl : l[i]? with
  | none => rw [hl] at h; simp at h
  | some x => rw [hl] at h; simp at h; subst h; simp
abbrev HdI := Int × List Int × List (Int × Int) × List (List Int) × List Int × Int × Int × Int × Int × Int × Int × Int × List (Int × Int) × Int × List (Int × Int × Int × Int × Int × Int) × Int
/-- What a head is that has said something. -/
def sayT (x0 : Int) (x1 : List Int) (x2 : List Ed) (x3 : List (List Int)) (x4 : List Int) (x14 : List Sd) (i op a b v : Int) : HdI := (x0, x1, x2, x3, x4, 0, 0, 0, 0, 0, 0, 0, [], 0, x14 ++ [(i, i, op, a, b, v)], 1)
def ordT (x0 : Int) (x1 : List Int) (x2 : List Ed) (x3 : List (List Int)) (x4 : List Int) (x14 : List Sd) (i op a b sh o : Int) (es : List Ed) (v : Int) : HdI := (x0, x1, x2, x3, x4, i, op, a, b, sh, x4.getD (sh - 1).toNat 0 + 1, o, es, v, x14, 2)
def tkE (x0 : Int) (x1 : List Int) (x2 : List Ed) (x3 : List (List Int)) (x4 : List Int) (x14 : List Sd) (i op a b : Int) : HdI :=
  if x1.getD (edO a b).1.toNat 0 = x1.getD (edO a b).2.toNat 0 then ordT x0 x1 x2 x3 x4 x14 i op a b (x1.getD (edO a b).1.toNat 0) (if op = 2 then 2 else 1) [edO a b] 0
  else if (decide (edO a b ∈ x2) == decide (op = 1)) = true then sayT x0 x1 x2 x3 x4 x14 i op a b 2
  else sayT x0 x1 (if edO a b ∈ x2 then del x2 (edO a b) else ins x2 (edO a b)) x3 x4 x14 i op a b 1
def tkM (x0 : Int) (x1 : List Int) (x2 : List Ed) (x3 : List (List Int)) (x4 : List Int) (x14 : List Sd) (i op a b : Int) : HdI :=
  if rtB x0 x3.length op a b = false then sayT x0 x1 x2 x3 x4 x14 i op a b 3
  else if op = 3 then sayT x0 x1 x2 x3 x4 x14 i op a b (if (wlR x0 x3 x2).1.getD a.toNat 0 = (wlR x0 x3 x2).1.getD b.toNat 0 then 1 else 2)
  else if op = 4 then (if x1.getD a.toNat 0 = b then sayT x0 x1 x2 x3 x4 x14 i op a b 2 else ordT x0 x1 x2 x3 x4 x14 i op a b (x1.getD a.toNat 0) 3 [] a)
  else tkE x0 x1 x2 x3 x4 x14 i op a b
/-- A head that is right, and what is known of it. -/
structure HdF (x0 : Int) (x1 : List Int) (x2 : List Ed) (x3 : List (List Int)) (x4 : List Int) (x14 : List Sd) : Prop where
  n : 1 ≤ x0 ∧ x0 ≤ 12
  k : 1 ≤ x3.length ∧ x3.length ≤ 3
  nums : x4.length = x3.length
  own : (x1.length : Int) = x0
  cuts : eOk x0 x2 = true
  said : x14.length ≤ 80
  o1 : ∀ i, i < x1.length → 1 ≤ x1.getD i 0 ∧ x1.getD i 0 ≤ x3.length
  o3 : ∀ i, i < x3.length → lbOk x0 (x3.getD i []) = true ∧ 0 ≤ x4.getD i 0 ∧ x4.getD i 0 ≤ 99991
theorem hd_F {x0 : Int} {x1 : List Int} {x2 : List Ed} {x3 : List (List Int)} {x4 : List Int} {x14 : List Sd} {t : Bool} (h : hdB x0 x1 x2 x3 x4 x14 t = true) : HdF x0 x1 x2 x3 x4 x14 ∧ t = true := by
  unfold hdB at h
  have h' := of_decide_eq_true h
  obtain ⟨⟨a1, a2, a3⟩, a4, ⟨a5, a6⟩, a7, a8, ⟨a9, a10⟩, a11⟩ := h'
  rw [inB_t] at a1 a2
  refine ⟨⟨a1, by omega, a3, a5, a6, a10, fun i hi => ?_, fun i hi => ?_⟩, a11⟩
  · have := a7 i hi
    unfold p1 at this
    rw [inB_t] at this; exact this
  · have := a4 i hi
    unfold p3 at this
    rw [Bool.and_eq_true, inB_t] at this; exact this
section
variable {x0 : Int} {x1 : List Int} {x2 : List Ed} {x3 : List (List Int)} {x4 : List Int} {x14 : List Sd}
theorem HdF.num (h : HdF x0 x1 x2 x3 x4 x14) {sh : Int} (h1 : 1 ≤ sh) (h2 : sh ≤ x3.length) : IntKind.wrap .i64 (sh - 1) = sh - 1 ∧ 0 ≤ sh - 1 ∧ sh - 1 < x4.length ∧ x4[(sh - 1).toNat]? = some (x4.getD (sh - 1).toNat 0) ∧ IntKind.wrap .i64 (x4.getD (sh - 1).toNat 0 + 1) = x4.getD (sh - 1).toNat 0 + 1 := by
  have hk := h.k
  have hn := h.nums
  have h3 := h.o3 (sh - 1).toNat (by omega)
  exact ⟨wr (by omega) (by omega), by omega, by omega, getD_at (by omega), wr (by omega) (by omega)⟩
theorem HdF.at (h : HdF x0 x1 x2 x3 x4 x14) {v : Int} (h1 : 0 ≤ v) (h2 : v ≤ x0 - 1) : v < x1.length ∧ x1[v.toNat]? = some (x1.getD v.toNat 0) ∧ 1 ≤ x1.getD v.toNat 0 ∧ x1.getD v.toNat 0 ≤ x3.length := by
  have ho := h.own
  have := h.o1 v.toNat (by omega)
  exact ⟨by omega, getD_at (by omega), this.1, this.2⟩
end
/-- May a question be taken? -/
noncomputable def tkOk (x0 : Int) (x1 : List Int) (x2 : List Ed) (x3 : List (List Int)) (x4 : List Int) (x5 x6 x7 x8 x9 x10 x11 : Int) (x12 : List Ed) (x13 : Int) (x14 : List Sd) (i : Int) : Bool :=
  hdB x0 x1 x2 x3 x4 x14 (tkB x0 x3.length x4 x14 x5 x6 x7 x8 x9 (x10, x11, x12, x13)) && (inB i 1 100000 && (!decide (0 ≤ sA x14 i) && (decide (x9 = 0) && !decide ((80 : Int) ≤ (x14.length : Int)))))
noncomputable def tkR (x0 : Int) (x1 : List Int) (x2 : List Ed) (x3 : List (List Int)) (x4 : List Int) (x5 x6 x7 x8 x9 x10 x11 : Int) (x12 : List Ed) (x13 : Int) (x14 : List Sd) (i op a b : Int) : HdI :=
  if tkOk x0 x1 x2 x3 x4 x5 x6 x7 x8 x9 x10 x11 x12 x13 x14 i = true then tkM x0 x1 x2 x3 x4 x14 i op a b else (x0, x1, x2, x3, x4, x5, x6, x7, x8, x9, x10, x11, x12, x13, x14, 0)
theorem tk_free {x0 : Int} {x1 : List Int} {x2 : List Ed} {x3 : List (List Int)} {x4 : List Int} {x5 x6 x7 x8 x9 x10 x11 : Int} {x12 : List Ed} {x13 : Int} {x14 : List Sd} {i : Int} (h : tkOk x0 x1 x2 x3 x4 x5 x6 x7 x8 x9 x10 x11 x12 x13 x14 i = true) :
    HdF x0 x1 x2 x3 x4 x14 ∧ x5 = 0 ∧ x6 = 0 ∧ x7 = 0 ∧ x8 = 0 ∧ x9 = 0 ∧ x10 = 0 ∧ x11 = 0 ∧ x12 = [] ∧ x13 = 0 := by
  unfold tkOk at h
  simp only [Bool.and_eq_true, decide_eq_true_eq] at h
  obtain ⟨h1, h2, h3, h4, h5⟩ := h
  obtain ⟨hF, ht⟩ := hd_F h1
  subst h4
  unfold tkB at ht
  rw [Bool.or_eq_true] at ht
  rcases ht with ht | ht
  · unfold tB blQ blO at ht
    simp only [Bool.and_eq_true, decide_eq_true_eq] at ht
    obtain ⟨⟨b1, b2, b3, b4⟩, _, c1, c2, c3, c4⟩ := ht
    exact ⟨hF, b1, b2, b3, b4, rfl, c1, c2, List.length_eq_zero_iff.1 c3, c4⟩
  · simp only [Bool.and_eq_true, inB_t] at ht
    omega
theorem loop_bind {X B C : Type} {F : (X → Option B) → X → Option B} (I : X → Prop) (μ : X → Nat) (Q : X → B → Prop) (P : Option C → Prop) {x : X} {k : B → Option C} (hx : μ x < BIG) (hi : I x)
    (h : ∀ self x, I x → (∀ y, I y → μ y < μ x → ∃ b, self y = some b ∧ Q y b) → ∃ b, F self x = some b ∧ Q x b) (hk : ∀ b, Q x b → P (k b)) : P (Option.bind (loopT BIG F x) k) := by
  obtain ⟨b, h1, h2⟩ := loop_rel (F := F) I μ Q h hx hi
  rw [h1]
  exact hk b h2
theorem filt_sum {α : Type} (p q : α → Bool) : ∀ l : List α, (∀ x, x ∈ l → (p x = true ∧ q x = false) ∨ (p x = false ∧ q x = true)) → (l.filter p).length + (l.filter q).length = l.length
  | [], _ => by simp
  | x :: l, h => by
    have ih := filt_sum p q l fun y hy => h y (List.mem_cons_of_mem _ hy)
    rw [List.filter_cons, List.filter_cons, List.length_cons]
    rcases h x (List.mem_cons_self ..) with ⟨h1, h2⟩ | ⟨h1, h2⟩
    · rw [h1, h2]; simp only [if_true, Bool.false_eq_true, if_false, List.length_cons]; omega
    · rw [h1, h2]; simp only [if_true, Bool.false_eq_true, if_false, List.length_cons]; omega
theorem ins_cnt {l : List Ed} {e : Ed} (h : e ∉ l) : (ins l e).length = l.length + 1 := by
  unfold ins
  have := filt_sum (fun y => lsB y e) (fun y => lsB e y) l fun x hx => by
    have hne : x ≠ e := fun he => h (he ▸ hx)
    obtain ⟨a, b⟩ := x
    obtain ⟨c, d⟩ := e
    have hcd : ¬ (a = c ∧ b = d) := fun hh => hne (by rw [hh.1, hh.2])
    simp only [lsB]
    by_cases h1 : a < c
    · left; refine ⟨by rw [decide_eq_true h1]; rfl, ?_⟩
      rw [decide_eq_false (show ¬ c < a from by omega), decide_eq_false (show ¬ c = a from by omega)]; rfl
    · by_cases h2 : c < a
      · right; refine ⟨?_, by rw [decide_eq_true h2]; rfl⟩
        rw [decide_eq_false h1, decide_eq_false (show ¬ a = c from by omega)]; rfl
      · have : a = c := by omega
        subst this
        by_cases h3 : b < d
        · left; refine ⟨by rw [decide_eq_true h3, decide_eq_true rfl]; simp, ?_⟩
          rw [decide_eq_false (show ¬ d < b from by omega), decide_eq_false h1]; simp
        · right
          have : d < b := by
            have : b ≠ d := fun hh => hcd ⟨rfl, hh⟩
            omega
          refine ⟨by rw [decide_eq_false h3, decide_eq_false h1]; simp, ?_⟩
          rw [decide_eq_true this, decide_eq_true rfl]; simp
  simp only [List.length_append, List.length_cons, List.length_nil]; omega
theorem wlV_of {l : List Int} {v : Nat} {x : Int} (h : l[v]? = some x) : (x, (v : Int)) ∈ wlV l := by
  unfold wlV
  refine List.mem_map.2 ⟨(x, v), ?_, rfl⟩
  have : l.zipIdx[v]? = some (x, v) := by rw [List.getElem?_zipIdx, h]; simp
  exact List.mem_of_getElem? this
theorem wlV_at {l : List Int} {e : Ed} (h : e ∈ wlV l) : ∃ v : Nat, l[v]? = some e.1 ∧ e.2 = (v : Int) := by
  obtain ⟨p, hp, rfl⟩ := List.mem_map.1 h
  obtain ⟨i, hi⟩ := List.mem_iff_getElem?.1 hp
  obtain ⟨h1, h2⟩ := zip_at hi
  exact ⟨i, h1, by simp [h2]⟩
theorem pL_labs {n : Nat} {A : List Ed} (h : EIn n A) : pL (n : Int) (labs n A) = true := by
  have hL := labs_ok h
  unfold pL
  rw [decide_eq_true (by rw [labs_len]), Bool.true_and]
  unfold vP
  rw [List.all_eq_true]
  intro p hp
  obtain ⟨i, hi⟩ := List.mem_iff_getElem?.1 hp
  obtain ⟨h1, h2⟩ := zip_at hi
  have := hL.le h1
  have := hL.lt h1
  rw [inB_t, h2]; omega
theorem GrOk.sub {n : Int} {es A : List Ed} (h : GrOk n es) (hs : A.Sublist es) : GrOk n A := ⟨h.1, h.2.1, h.2.2.1.sublist hs, fun e he => h.2.2.2 e (hs.subset he)⟩
theorem srt_nodup {es : List Ed} (h : Srt es) : es.Nodup := by
  refine List.Pairwise.imp (fun {a b} hab => ?_) h
  rintro rfl
  rw [lsB_irrefl] at hab; cases hab
inductive FT where
  | nil
  | nd (v : Int) (c s : FT)
def FT.vs : FT → List Int
  | .nil => []
  | .nd v c s => v :: (c.vs ++ s.vs)
def FT.sg : FT → Int → List Int
  | .nil, _ => []
  | .nd v c s, r => v :: (c.sg v ++ r :: s.sg r)
def tr (v : Int) (c : FT) : List Int := v :: c.sg v
theorem sg_last : ∀ (f : FT) (r : Int), f.sg r = [] ∨ ∃ L, f.sg r = L ++ [r]
  | .nil, _ => .inl rfl
  | .nd v c s, r => by
    right
    rcases sg_last s r with h | ⟨L, h⟩
    · exact ⟨v :: c.sg v, by simp [FT.sg, h]⟩
    · exact ⟨v :: (c.sg v ++ r :: L), by simp [FT.sg, h]⟩
theorem tr_last (v : Int) (c : FT) : ∃ L, tr v c = L ++ [v] := by
  rcases sg_last c v with h | ⟨L, h⟩
  · exact ⟨[], by simp [tr, h]⟩
  · exact ⟨v :: L, by simp [tr, h]⟩
theorem sg_mem : ∀ (f : FT) (r x : Int), x ∈ f.sg r ↔ x ∈ f.vs ∨ (x = r ∧ f.vs ≠ [])
  | .nil, r, x => by simp [FT.sg, FT.vs]
  | .nd v c s, r, x => by
    have h1 := sg_mem c v x
    have h2 := sg_mem s r x
    simp only [FT.sg, FT.vs, List.mem_cons, List.mem_append, h1, h2]
    constructor
    · rintro (h | (h | ⟨h, _⟩) | h | h | ⟨h, _⟩)
      · exact .inl (.inl h)
      · exact .inl (.inr (.inl h))
      · exact .inl (.inl h)
      · exact .inr ⟨h, by simp⟩
      · exact .inl (.inr (.inr h))
      · exact .inr ⟨h, by simp⟩
    · rintro ((h | h | h) | ⟨h, _⟩)
      · exact .inl h
      · exact .inr (.inl (.inl h))
      · exact .inr (.inr (.inr (.inl h)))
      · exact .inr (.inr (.inl h))
theorem tr_mem (v : Int) (c : FT) (x : Int) : x ∈ tr v c ↔ x ∈ v :: c.vs := by
  simp only [tr, List.mem_cons, sg_mem]
  constructor
  · rintro (h | h | ⟨h, _⟩)
    · exact .inl h
    · exact .inr h
    · exact .inl h
  · rintro (h | h)
    · exact .inl h
    · exact .inr (.inl h)
/-- A right tour. -/
structure TrOk (v : Int) (c : FT) : Prop where
  nd : (v :: c.vs).Nodup
  rg : ∀ x, x ∈ v :: c.vs → 0 ≤ x ∧ x ≤ 11
theorem nodup_le : ∀ (n : Nat) (l : List Int), l.Nodup → (∀ x, x ∈ l → 0 ≤ x ∧ x < n) → l.length ≤ n
  | 0, l, _, h => by
    cases l with
    | nil => simp
    | cons x l => have := h x (List.mem_cons_self ..); omega
  | n + 1, l, hn, h => by
    have h1 := nodup_le n (l.erase (n : Int)) (hn.erase _) (fun x hx => by
      have h2 := (hn.mem_erase_iff).1 hx
      have := h x h2.2
      have := h2.1
      omega)
    have h2 := List.length_erase (a := (n : Int)) (l := l)
    split at h2
    · rw [h2] at h1; omega
    · rw [h2] at h1; omega
theorem TrOk.len {v : Int} {c : FT} (h : TrOk v c) : c.vs.length ≤ 11 := by
  have := nodup_le 12 (v :: c.vs) h.nd (fun x hx => by have := h.rg x hx; omega)
  simp only [List.length_cons] at this
  omega
inductive De (pa : Int → Int → Prop) (v : Int) : Int → Prop
  | refl : De pa v v
  | step {a x : Int} : De pa v a → pa a x → De pa v x
/-- Edges that are trees: who is whose parent. -/
structure Fo (n : Nat) (es : List Ed) (pa : Int → Int → Prop) (rk : Int → Nat) : Prop where
  rg : ∀ {a b}, pa a b → (0 ≤ a ∧ a < n) ∧ (0 ≤ b ∧ b < n)
  ad : ∀ u v, ((if v < u then (v, u) else (u, v)) ∈ es) ↔ (pa u v ∨ pa v u)
  un : ∀ {a a' b}, pa a b → pa a' b → a = a'
  up : ∀ {a b}, pa a b → rk a < rk b
section
variable {n : Nat} {es : List Ed} {pa : Int → Int → Prop} {rk : Int → Nat} (F : Fo n es pa rk)
include F
omit F in
theorem De.trans {u v x : Int} (h : De pa u v) (h2 : De pa v x) : De pa u x := by
  induction h2 with
  | refl => exact h
  | step _ h2 ih => exact .step ih h2
def Nb (pa : Int → Int → Prop) (v fr u : Int) : Prop := u ≠ fr ∧ (pa u v ∨ pa v u)
end
structure TreeEs (n : Int) (es : List Ed) : Prop where
  rg : ∀ e, e ∈ es → 0 ≤ e.1 ∧ e.1 < e.2 ∧ e.2 < n
  un : ∀ e e', e ∈ es → e' ∈ es → e.2 = e'.2 → e.1 = e'.1
theorem TreeEs.ed {n : Nat} {es : List Ed} (h : TreeEs n es) (h1 : 1 ≤ n) (h2 : n ≤ 12) : ∀ e, e ∈ es → edB n e = true := by
  intro e he
  have := h.rg e he
  unfold edB
  simp only [Bool.and_eq_true, inB_t, decide_eq_true_eq]
  omega
theorem tr_closed (v : Int) (c : FT) : (tr v c)[(tr v c).length - 1]? = (tr v c)[0]? := by
  obtain ⟨L, hL⟩ := tr_last v c
  have h0 : (tr v c)[0]? = some v := rfl
  rw [h0, hL]
  simp
/-- A tour at one of its edges: what is below it, and the rest. -/
structure SpF (r : Int) (F : FT) (k : Nat) (X : List Int) (p w : Int) (C : FT) (Y : List Int) (F' : FT) : Prop where
  e1 : tr r F = X ++ p :: (tr w C ++ p :: Y)
  e2 : tr r F' = X ++ p :: Y
  pm : F.vs.Perm ((w :: C.vs) ++ F'.vs)
  at' : k = X.length ∨ k = X.length + (tr w C).length
section
variable {r : Int} {F : FT} {k : Nat} {X : List Int} {p w : Int} {C : FT} {Y : List Int} {F' : FT}
theorem SpF.perm (h : SpF r F k X p w C Y F') : (r :: F.vs).Perm ((w :: C.vs) ++ (r :: F'.vs)) := (List.Perm.cons _ h.pm).trans List.perm_middle.symm
theorem SpF.nd (h : SpF r F k X p w C Y F') (ht : TrOk r F) : TrOk w C ∧ TrOk r F' ∧ ∀ x, x ∈ tr w C → x ∉ tr r F' := by
  have hn := h.perm.nodup_iff.1 ht.nd
  rw [List.nodup_append] at hn
  obtain ⟨n1, n2, n3⟩ := hn
  exact ⟨⟨n1, fun x hx => ht.rg x (h.perm.mem_iff.2 (List.mem_append_left _ hx))⟩, ⟨n2, fun x hx => ht.rg x (h.perm.mem_iff.2 (List.mem_append_right _ hx))⟩,
    fun x hx hx' => n3 x ((tr_mem _ _ _).1 hx) x ((tr_mem _ _ _).1 hx') rfl⟩
theorem SpF.len (h : SpF r F k X p w C Y F') : (tr r F).length = X.length + (tr w C).length + Y.length + 2 ∧ (tr r F').length = X.length + Y.length + 1 := by
  rw [h.e1, h.e2]
  simp only [List.length_append, List.length_cons]
  omega
theorem SpF.out1 (h : SpF r F k X p w C Y F') {m : Nat} (hm : m < X.length) : ∃ x, (tr r F)[m]? = some x ∧ x ∈ tr r F' := by
  refine ⟨X[m], ?_, ?_⟩
  · rw [h.e1, List.getElem?_append_left hm, List.getElem?_eq_getElem hm]
  · rw [h.e2]; exact List.mem_append_left _ (List.getElem_mem _)
theorem SpF.atD (h : SpF r F k X p w C Y F') : (tr r F)[X.length]? = some p := by
  rw [h.e1, List.getElem?_append_right (Nat.le_refl _), Nat.sub_self]; rfl
theorem SpF.inn (h : SpF r F k X p w C Y F') {m : Nat} (hm : m < (tr w C).length) : (tr r F)[X.length + 1 + m]? = (tr w C)[m]? := by
  rw [h.e1, List.getElem?_append_right (by omega), show X.length + 1 + m - X.length = m + 1 from by omega, List.getElem?_cons_succ, List.getElem?_append_left hm]
theorem SpF.atU (h : SpF r F k X p w C Y F') : (tr r F)[X.length + (tr w C).length + 1]? = some p := by
  rw [h.e1, List.getElem?_append_right (by omega), show X.length + (tr w C).length + 1 - X.length = (tr w C).length + 1 from by omega, List.getElem?_cons_succ, List.getElem?_append_right (Nat.le_refl _), Nat.sub_self]; rfl
theorem SpF.out2 (h : SpF r F k X p w C Y F') {m : Nat} (hm : m < Y.length) : ∃ x, (tr r F)[X.length + (tr w C).length + 2 + m]? = some x ∧ x ∈ tr r F' := by
  refine ⟨Y[m], ?_, ?_⟩
  · rw [h.e1, List.getElem?_append_right (by omega), show X.length + (tr w C).length + 2 + m - X.length = ((tr w C).length + 1 + m) + 1 from by omega, List.getElem?_cons_succ, List.getElem?_append_right (by omega), show (tr w C).length + 1 + m - (tr w C).length = m + 1 from by omega, List.getElem?_cons_succ, List.getElem?_eq_getElem hm]
  · rw [h.e2]; exact List.mem_append_right _ (List.mem_cons_of_mem _ (List.getElem_mem _))
/-- In or out at a place. -/
theorem SpF.side (h : SpF r F k X p w C Y F') {m : Nat} (hm : m < (tr r F).length) : ∃ x, (tr r F)[m]? = some x ∧ ((X.length < m ∧ m ≤ X.length + (tr w C).length → x ∈ tr w C) ∧ (¬ (X.length < m ∧ m ≤ X.length + (tr w C).length) → x ∈ tr r F')) := by
  have hl := h.len.1
  have hp : p ∈ tr r F' := by rw [h.e2]; simp
  by_cases h1 : m < X.length
  · obtain ⟨x, a, b⟩ := h.out1 h1
    exact ⟨x, a, fun g => by omega, fun _ => b⟩
  by_cases h2 : m = X.length
  · subst h2; exact ⟨p, h.atD, fun g => by omega, fun _ => hp⟩
  by_cases h3 : m ≤ X.length + (tr w C).length
  · have hlt : m - X.length - 1 < (tr w C).length := by omega
    have := h.inn hlt
    rw [show X.length + 1 + (m - X.length - 1) = m from by omega, List.getElem?_eq_getElem hlt] at this
    exact ⟨_, this, fun _ => List.getElem_mem _, fun g => by omega⟩
  by_cases h4 : m = X.length + (tr w C).length + 1
  · subst h4; exact ⟨p, h.atU, fun g => by omega, fun _ => hp⟩
  · obtain ⟨x, a, b⟩ := h.out2 (m := m - (X.length + (tr w C).length + 2)) (by omega)
    rw [show X.length + (tr w C).length + 2 + (m - (X.length + (tr w C).length + 2)) = m from by omega] at a
    exact ⟨x, a, fun g => by omega, fun _ => b⟩
end
/-- A head that is small. -/
structure HdS (h : Hd) : Prop where
  a : h.2.1.length ≤ 12
  b : h.2.2.1.length ≤ 132
  c : h.2.2.2.1.length ≤ 3 ∧ ∀ y, y ∈ h.2.2.2.1 → y.length ≤ 12
  d : h.2.2.2.2.1.length ≤ 3
  e : h.2.2.2.2.2.2.2.2.2.2.2.2.1.length ≤ 132
  f : h.2.2.2.2.2.2.2.2.2.2.2.2.2.2.length ≤ 81
noncomputable def tkU (h : Hd) (i op a b : Int) : HdI := tkR h.1 h.2.1 h.2.2.1 h.2.2.2.1 h.2.2.2.2.1 h.2.2.2.2.2.1 h.2.2.2.2.2.2.1 h.2.2.2.2.2.2.2.1 h.2.2.2.2.2.2.2.2.1 h.2.2.2.2.2.2.2.2.2.1 h.2.2.2.2.2.2.2.2.2.2.1 h.2.2.2.2.2.2.2.2.2.2.2.1 h.2.2.2.2.2.2.2.2.2.2.2.2.1 h.2.2.2.2.2.2.2.2.2.2.2.2.2.1 h.2.2.2.2.2.2.2.2.2.2.2.2.2.2 i op a b
theorem lb_len {n : Int} {l : List Int} (h : lbOk n l = true) : (l.length : Int) = n := by
  unfold lbOk at h
  split at h
  · assumption
  · cases h
theorem HdF.rows {x0 : Int} {x1 : List Int} {x2 : List Ed} {x3 : List (List Int)} {x4 : List Int} {x14 : List Sd} (h : HdF x0 x1 x2 x3 x4 x14) : ∀ y, y ∈ x3 → y.length ≤ 12 := by
  intro y hy
  obtain ⟨i, hi, rfl⟩ := List.getElem_of_mem hy
  have h1 := (h.o3 i hi).1
  rw [gD (List.getElem?_eq_getElem hi)] at h1
  have := lb_len h1
  have := h.n
  omega
def FT.rts : FT → List Int
  | .nil => []
  | .nd v c s => v :: s.rts
theorem rts_vs : ∀ (g : FT) {x : Int}, x ∈ g.rts → x ∈ g.vs
  | .nil, x, h => h
  | .nd v c s, x, h => by
    simp only [FT.rts, List.mem_cons] at h
    simp only [FT.vs, List.mem_cons, List.mem_append]
    rcases h with h | h
    · exact .inl h
    · exact .inr (.inr (rts_vs s h))
def RtO (pa : Int → Int → Prop) (v fr : Int) (g : FT) : Prop := g.rts.Pairwise (· < ·) ∧ ∀ u, u ∈ g.rts ↔ Nb pa v fr u
def GF (pa : Int → Int → Prop) : FT → Int → Prop
  | .nil, _ => True
  | .nd u c s, v => (RtO pa u v c ∧ GF pa c u) ∧ GF pa s v
theorem edB_f {n : Nat} {e : Ed} (h : edB n e = true) : 0 ≤ e.1 ∧ e.1 < e.2 ∧ e.2 < n := by
  unfold edB at h
  simp only [Bool.and_eq_true, inB_t, decide_eq_true_eq] at h
  omega
def FT.pr : FT → Int → List (Int × Int)
  | .nil, _ => []
  | .nd w c s, r => (r, w) :: (c.pr w ++ s.pr r)
theorem pr_snd : ∀ (f : FT) (r : Int), (f.pr r).map (·.2) = f.vs
  | .nil, _ => rfl
  | .nd w c s, r => by
    have h1 := pr_snd c w
    have h2 := pr_snd s r
    simp [FT.pr, FT.vs, h1, h2]
theorem pr_len (f : FT) (r : Int) : (f.pr r).length = f.vs.length := by rw [← pr_snd f r, List.length_map]
theorem pr_in {f : FT} {r a b : Int} (h : (a, b) ∈ f.pr r) : b ∈ f.vs := by
  rw [← pr_snd f r]
  exact List.mem_map.2 ⟨_, h, rfl⟩
theorem pr_fst : ∀ (f : FT) {r a b : Int}, (a, b) ∈ f.pr r → a ∈ r :: f.vs
  | .nil, r, a, b, h => by cases h
  | .nd w c s, r, a, b, h => by
    simp only [FT.pr, List.mem_cons, List.mem_append, Prod.mk.injEq] at h
    simp only [FT.vs, List.mem_cons, List.mem_append]
    rcases h with ⟨h, _⟩ | h | h
    · exact .inl h
    · have := pr_fst c h
      rw [List.mem_cons] at this
      rcases this with h | h
      · exact .inr (.inl h)
      · exact .inr (.inr (.inl h))
    · have := pr_fst s h
      rw [List.mem_cons] at this
      rcases this with h | h
      · exact .inl h
      · exact .inr (.inr (.inr h))
theorem pr_bef : ∀ (f : FT) (r : Int) {a b : Int}, (a, b) ∈ f.pr r → ∃ X Y, r :: f.vs = X ++ Y ∧ a ∈ X ∧ b ∈ Y
  | .nil, r, a, b, h => by cases h
  | .nd w c s, r, a, b, h => by
    simp only [FT.pr, List.mem_cons, List.mem_append, Prod.mk.injEq] at h
    rcases h with ⟨rfl, rfl⟩ | h | h
    · exact ⟨[a], b :: (c.vs ++ s.vs), rfl, List.mem_cons_self .., List.mem_cons_self ..⟩
    · obtain ⟨X, Y, e, h1, h2⟩ := pr_bef c w h
      refine ⟨r :: X, Y ++ s.vs, ?_, List.mem_cons_of_mem _ h1, List.mem_append_left _ h2⟩
      have : r :: (FT.nd w c s).vs = r :: ((w :: c.vs) ++ s.vs) := rfl
      rw [this, e]; simp
    · obtain ⟨X, Y, e, h1, h2⟩ := pr_bef s r h
      cases X with
      | nil => cases h1
      | cons x X =>
        simp only [List.cons_append, List.cons.injEq] at e
        obtain ⟨rfl, e⟩ := e
        refine ⟨r :: w :: (c.vs ++ X), Y, ?_, ?_, h2⟩
        · have : r :: (FT.nd w c s).vs = r :: w :: (c.vs ++ s.vs) := rfl
          rw [this, e]; simp
        · rw [List.mem_cons] at h1
          rcases h1 with h1 | h1
          · rw [h1]; exact List.mem_cons_self ..
          · exact List.mem_cons_of_mem _ (List.mem_cons_of_mem _ (List.mem_append_right _ h1))
theorem pr_rk {f : FT} {r : Int} (hn : (r :: f.vs).Nodup) {a b : Int} (h : (a, b) ∈ f.pr r) : (r :: f.vs).idxOf a < (r :: f.vs).idxOf b := by
  obtain ⟨X, Y, e, h1, h2⟩ := pr_bef f r h
  rw [e] at hn ⊢
  rw [List.nodup_append] at hn
  have hb : b ∉ X := fun h => hn.2.2 b h b h2 rfl
  rw [List.idxOf_append, List.idxOf_append, if_pos h1, if_neg hb]
  have := List.idxOf_lt_length_of_mem h1
  omega
theorem tr_nd (r w : Int) (c s : FT) : tr r (.nd w c s) = r :: (tr w c ++ tr r s) := by simp [tr, FT.sg]
theorem tr_l (r : Int) (c : FT) : (tr r c)[(tr r c).length - 1]? = some r := by rw [tr_closed]; rfl
theorem split_pr : ∀ (f : FT) (r : Int) (k : Nat), k + 1 < (tr r f).length → ∃ p w, (p, w) ∈ f.pr r ∧ (((tr r f)[k]? = some p ∧ (tr r f)[k + 1]? = some w) ∨ ((tr r f)[k]? = some w ∧ (tr r f)[k + 1]? = some p))
  | .nil, r, k, h => by simp [tr, FT.sg] at h
  | .nd w c s, r, k, h => by
    rw [tr_nd] at h ⊢
    have hw : 1 ≤ (tr w c).length := by simp [tr]
    simp only [List.length_cons, List.length_append] at h
    rw [List.getElem?_cons_succ]
    by_cases h0 : k = 0
    · subst h0
      refine ⟨r, w, List.mem_cons_self .., .inl ⟨rfl, ?_⟩⟩
      rw [List.getElem?_append_left (by omega)]; rfl
    · obtain ⟨k, rfl⟩ : ∃ k', k = k' + 1 := ⟨k - 1, by omega⟩
      rw [List.getElem?_cons_succ]
      by_cases h1 : k + 1 < (tr w c).length
      · obtain ⟨p, x, g1, g2⟩ := split_pr c w k h1
        refine ⟨p, x, List.mem_cons_of_mem _ (List.mem_append_left _ g1), ?_⟩
        rw [List.getElem?_append_left (by omega), List.getElem?_append_left h1]
        exact g2
      · by_cases h2 : k + 1 = (tr w c).length
        · refine ⟨r, w, List.mem_cons_self .., .inr ⟨?_, ?_⟩⟩
          · rw [List.getElem?_append_left (by omega), show k = (tr w c).length - 1 from by omega]
            exact tr_l w c
          · rw [List.getElem?_append_right (by omega), h2, Nat.sub_self]; rfl
        · obtain ⟨p, x, g1, g2⟩ := split_pr s r (k - (tr w c).length) (by omega)
          refine ⟨p, x, List.mem_cons_of_mem _ (List.mem_append_right _ g1), ?_⟩
          rw [List.getElem?_append_right (by omega), List.getElem?_append_right (by omega), show k + 1 - (tr w c).length = k - (tr w c).length + 1 from by omega]
          exact g2
theorem pr_at : ∀ (f : FT) (r p w : Int), (p, w) ∈ f.pr r → (∃ k, (tr r f)[k]? = some p ∧ (tr r f)[k + 1]? = some w) ∧ (∃ k, (tr r f)[k]? = some w ∧ (tr r f)[k + 1]? = some p)
  | .nil, r, p, w, h => by cases h
  | .nd u c s, r, p, w, h => by
    rw [tr_nd]
    have hw : 1 ≤ (tr u c).length := by simp [tr]
    have inA : ∀ {x y : Int}, (∃ k, (tr u c)[k]? = some x ∧ (tr u c)[k + 1]? = some y) → ∃ k, (r :: (tr u c ++ tr r s))[k]? = some x ∧ (r :: (tr u c ++ tr r s))[k + 1]? = some y := by
      rintro x y ⟨k, h1, h2⟩
      have hk := (List.getElem?_eq_some_iff.1 h2).1
      refine ⟨k + 1, ?_, ?_⟩
      · rw [List.getElem?_cons_succ, List.getElem?_append_left (by omega)]; exact h1
      · rw [List.getElem?_cons_succ, List.getElem?_append_left hk]; exact h2
    have inB : ∀ {x y : Int}, (∃ k, (tr r s)[k]? = some x ∧ (tr r s)[k + 1]? = some y) → ∃ k, (r :: (tr u c ++ tr r s))[k]? = some x ∧ (r :: (tr u c ++ tr r s))[k + 1]? = some y := by
      rintro x y ⟨k, h1, h2⟩
      refine ⟨(tr u c).length + k + 1, ?_, ?_⟩
      · rw [List.getElem?_cons_succ, List.getElem?_append_right (by omega), show (tr u c).length + k - (tr u c).length = k from by omega]; exact h1
      · rw [List.getElem?_cons_succ, List.getElem?_append_right (by omega), show (tr u c).length + k + 1 - (tr u c).length = k + 1 from by omega]; exact h2
    simp only [FT.pr, List.mem_cons, List.mem_append, Prod.mk.injEq] at h
    rcases h with ⟨rfl, rfl⟩ | h | h
    · constructor
      · refine ⟨0, rfl, ?_⟩
        rw [List.getElem?_cons_succ, List.getElem?_append_left (by omega)]; rfl
      · refine ⟨(tr w c).length, ?_, ?_⟩
        · rw [show (tr w c).length = ((tr w c).length - 1) + 1 from by omega, List.getElem?_cons_succ, List.getElem?_append_left (by omega)]
          exact tr_l w c
        · rw [List.getElem?_cons_succ, List.getElem?_append_right (Nat.le_refl _), Nat.sub_self]; rfl
    · obtain ⟨h1, h2⟩ := pr_at c u p w h
      exact ⟨inA h1, inA h2⟩
    · obtain ⟨h1, h2⟩ := pr_at s r p w h
      exact ⟨inB h1, inB h2⟩
theorem pr_reach : ∀ (f : FT) (r : Int) (S : Int → Prop), S r → (∀ a b, (a, b) ∈ f.pr r → S a → S b) → ∀ x, x ∈ f.vs → S x
  | .nil, _, _, _, _, x, h => by cases h
  | .nd w c s, r, S, hr, hs, x, h => by
    have hw : S w := hs r w (List.mem_cons_self ..) hr
    simp only [FT.vs, List.mem_cons, List.mem_append] at h
    rcases h with rfl | h | h
    · exact hw
    · exact pr_reach c w S hw (fun a b hab => hs a b (List.mem_cons_of_mem _ (List.mem_append_left _ hab))) x h
    · exact pr_reach s r S hr (fun a b hab => hs a b (List.mem_cons_of_mem _ (List.mem_append_right _ hab))) x h
theorem nodup_sub {α : Type} [DecidableEq α] : ∀ (l1 l2 : List α), l1.Nodup → (∀ x, x ∈ l1 → x ∈ l2) → l1.length ≤ l2.length
  | [], l2, _, _ => by simp
  | x :: l1, l2, hn, h => by
    rw [List.nodup_cons] at hn
    have hx := h x (List.mem_cons_self ..)
    have := nodup_sub l1 (l2.erase x) hn.2 fun y hy => (List.mem_erase_of_ne (by rintro rfl; exact hn.1 hy)).2 (h y (List.mem_cons_of_mem _ hy))
    rw [List.length_erase_of_mem hx] at this
    have := List.length_pos_of_mem hx
    simp only [List.length_cons]; omega
theorem nodup_mp {α β : Type} (f : α → β) : ∀ (l : List α), l.Nodup → (∀ x, x ∈ l → ∀ y, y ∈ l → f x = f y → x = y) → (l.map f).Nodup
  | [], _, _ => by simp
  | x :: l, hn, h => by
    rw [List.nodup_cons] at hn
    rw [List.map_cons, List.nodup_cons]
    refine ⟨fun hm => ?_, nodup_mp f l hn.2 fun a ha b hb => h a (List.mem_cons_of_mem _ ha) b (List.mem_cons_of_mem _ hb)⟩
    obtain ⟨y, hy, e⟩ := List.mem_map.1 hm
    have := h y (List.mem_cons_of_mem _ hy) x (List.mem_cons_self ..) e
    subst this
    exact hn.1 hy
theorem GF_closed {pa : Int → Int → Prop} : ∀ (c : FT) (u : Int), GF pa c u → ∀ y, y ∈ c.vs → ∀ z, (pa z y ∨ pa y z) → z ∈ c.vs ∨ z = u
  | .nil, _, _, y, h, _, _ => by cases h
  | .nd w c s, u, ⟨⟨hR, hG⟩, hS⟩, y, h, z, hz => by
    simp only [FT.vs, List.mem_cons, List.mem_append] at h ⊢
    rcases h with rfl | h | h
    · by_cases hzu : z = u
      · exact .inr hzu
      · exact .inl (.inr (.inl (rts_vs c ((hR.2 z).2 ⟨hzu, hz⟩))))
    · rcases GF_closed c w hG y h z hz with h1 | h1
      · exact .inl (.inr (.inl h1))
      · exact .inl (.inl h1)
    · rcases GF_closed s u hS y h z hz with h1 | h1
      · exact .inl (.inr (.inr h1))
      · exact .inr h1
/-- The edges of a tour. -/
structure TrE (v : Int) (f : FT) (E : List Ed) : Prop where
  nd : E.Nodup
  mem : ∀ a b, (a, b) ∈ E ↔ a < b ∧ ((a, b) ∈ f.pr v ∨ (b, a) ∈ f.pr v)
section
variable {v : Int} {f : FT} {E : List Ed} (ht : TrOk v f) (hE : TrE v f E)
include ht
include hE
theorem TrE.edB : ∀ e, e ∈ E → edB (12 : Nat) e = true := by
  rintro ⟨a, b⟩ he
  have h := (hE.mem a b).1 he
  have ha : a ∈ v :: f.vs := by
    rcases h.2 with h | h
    · exact pr_fst f h
    · exact List.mem_cons_of_mem _ (pr_in h)
  have hb : b ∈ v :: f.vs := by
    rcases h.2 with h | h
    · exact List.mem_cons_of_mem _ (pr_in h)
    · exact pr_fst f h
  have h1 := ht.rg a ha
  have h2 := ht.rg b hb
  unfold Go.Fw.edB
  simp only [Bool.and_eq_true, inB_t, decide_eq_true_eq]
  omega
theorem TrE.len : E.length = f.vs.length := by
  rw [← pr_len f v]
  have hprn : (f.pr v).Nodup := by
    have : ((f.pr v).map (·.2)).Nodup := by rw [pr_snd]; exact (List.nodup_cons.1 ht.nd).2
    exact List.Pairwise.of_map (·.2) (fun a b h he => h (by rw [he])) this
  have hN : ((f.pr v).map fun e => if e.1 < e.2 then e else (e.2, e.1)).Nodup := by
    refine nodup_mp _ _ hprn ?_
    rintro ⟨a, b⟩ hx ⟨c, d⟩ hy h
    have r1 := pr_rk ht.nd hx
    have r2 := pr_rk ht.nd hy
    simp only at h
    split at h <;> split at h
    · exact h
    · cases h; omega
    · simp only [Prod.mk.injEq] at h
      obtain ⟨rfl, rfl⟩ := h
      omega
    · simp only [Prod.mk.injEq] at h
      rw [h.1, h.2]
  have l1 := nodup_sub E ((f.pr v).map fun e => if e.1 < e.2 then e else (e.2, e.1)) hE.nd (by
    rintro ⟨a, b⟩ he
    have h := (hE.mem a b).1 he
    rw [List.mem_map]
    rcases h.2 with h2 | h2
    · exact ⟨(a, b), h2, by simp [h.1]⟩
    · exact ⟨(b, a), h2, by simp only; rw [if_neg (by omega)]⟩)
  have l2 := nodup_sub _ E hN (by
    rintro ⟨a, b⟩ he
    rw [List.mem_map] at he
    obtain ⟨⟨c, d⟩, h1, h2⟩ := he
    have r1 := pr_rk ht.nd h1
    have hcd : c ≠ d := by rintro rfl; omega
    simp only at h2
    split at h2
    · rename_i hlt
      cases h2
      exact (hE.mem _ _).2 ⟨hlt, .inl h1⟩
    · cases h2
      exact (hE.mem _ _).2 ⟨by omega, .inr h1⟩)
  rw [List.length_map] at l1 l2
  omega
theorem TrE.con : ∀ x, x ∈ v :: f.vs → Con E v x := by
  intro x hx
  rw [List.mem_cons] at hx
  rcases hx with rfl | hx
  · exact .refl _
  · refine pr_reach f v (Con E v) (.refl _) (fun a b hab ha => ?_) x hx
    have hne : a ≠ b := by
      rintro rfl
      have := pr_rk ht.nd hab
      omega
    by_cases hlt : a < b
    · exact .fwd ha ((hE.mem a b).2 ⟨hlt, .inl hab⟩)
    · exact .bwd ha ((hE.mem b a).2 ⟨by omega, .inr hab⟩)
end
theorem TrE.of {v : Int} {f : FT} {E : List Ed} (hnd : E.Nodup)
    (hm : ∀ a b : Int, (a, b) ∈ E ↔ ∃ k : Nat, k + 1 < (tr v f).length ∧ (tr v f)[k]? = some a ∧ (tr v f)[k + 1]? = some b ∧ a < b) : TrE v f E where
  nd := hnd
  mem := fun a b => by
    rw [hm]
    constructor
    · rintro ⟨k, h1, h2, h3, h4⟩
      refine ⟨h4, ?_⟩
      obtain ⟨p, w, g1, g2⟩ := split_pr f v k h1
      rcases g2 with ⟨g2, g3⟩ | ⟨g2, g3⟩
      · rw [h2] at g2
        rw [h3] at g3
        cases g2; cases g3
        exact .inl g1
      · rw [h2] at g2
        rw [h3] at g3
        cases g2; cases g3
        exact .inr g1
    · rintro ⟨h1, h2⟩
      have : ∃ k, (tr v f)[k]? = some a ∧ (tr v f)[k + 1]? = some b := by
        rcases h2 with h2 | h2
        · exact (pr_at f v a b h2).1
        · exact (pr_at f v b a h2).2
      obtain ⟨k, k1, k2⟩ := this
      exact ⟨k, (List.getElem?_eq_some_iff.1 k2).1, k1, k2, h1⟩
def mE (E : List Ed) (e : Ed) : List Ed := E.filter fun x => decide (x ≠ e)
theorem mem_mE {E : List Ed} {e x : Ed} : x ∈ mE E e ↔ x ∈ E ∧ x ≠ e := by simp [mE]
def NoCyc (E : List Ed) : Prop := ∀ e, e ∈ E → ¬ Con (mE E e) e.1 e.2
theorem NoCyc.sub {E E' : List Ed} (h : NoCyc E) (hs : ∀ e, e ∈ E' → e ∈ E) : NoCyc E' := fun e he hc =>
  h e (hs e he) (hc.mono fun x hx => mem_mE.2 ⟨hs x (mem_mE.1 hx).1, (mem_mE.1 hx).2⟩)
def ed (a b : Int) : Ed := if a < b then (a, b) else (b, a)
def ad (E : List Ed) (u v : Int) : Prop := (u, v) ∈ E ∨ (v, u) ∈ E
theorem ad_symm {E : List Ed} {u v : Int} (h : ad E u v) : ad E v u := h.symm
theorem con_ed {E : List Ed} {a b : Int} (h : ed a b ∈ E) : Con E a b := by
  unfold ed at h
  split at h
  · exact .of h
  · exact (Con.of h).symm
section
variable {n : Nat} {E : List Ed} (hE : ∀ e, e ∈ E → edB n e = true)
include hE
theorem ed_ad {a b : Int} : ed a b ∈ E ↔ ad E a b := by
  unfold ed ad
  constructor
  · intro h
    split at h
    · exact .inl h
    · exact .inr h
  · rintro (h | h)
    · have := edB_f (hE _ h)
      rw [if_pos this.2.1]; exact h
    · have := edB_f (hE _ h)
      simp only at this
      rw [if_neg (by omega)]; exact h
theorem ad_rg {a b : Int} (h : ad E a b) : (0 ≤ a ∧ a < n) ∧ (0 ≤ b ∧ b < n) ∧ a ≠ b := by
  rcases h with h | h
  · have := edB_f (hE _ h)
    simp only at this
    omega
  · have := edB_f (hE _ h)
    simp only at this
    omega
end
/-- The forest's edges of a level at least. -/
def atE (L : List Led) (k : Int) : List Ed := (L.filter fun x => x.2.2.2 && decide (k ≤ x.2.2.1)).map fun x => (x.1, x.2.1)
structure GT (n : Nat) (E : List Ed) (v : Int) (f : FT) : Prop where
  nd : (v :: f.vs).Nodup
  rg : ∀ x, x ∈ v :: f.vs → 0 ≤ x ∧ x < n
  rt : RtO (ad E) v (-1) f
  gf : GF (ad E) f v
theorem GF_pr {pa : Int → Int → Prop} : ∀ (f : FT) (v : Int), (∀ w, w ∈ f.rts → pa w v ∨ pa v w) → GF pa f v → ∀ {a b : Int}, (a, b) ∈ f.pr v → pa b a ∨ pa a b
  | .nil, _, _, _, _, _, h => by cases h
  | .nd w c s, v, hr, ⟨⟨hR, hG⟩, hS⟩, a, b, h => by
    simp only [FT.pr, List.mem_cons, List.mem_append, Prod.mk.injEq] at h
    rcases h with ⟨rfl, rfl⟩ | h | h
    · exact hr _ (List.mem_cons_self ..)
    · exact GF_pr c w (fun x hx => ((hR.2 x).1 hx).2) hG h
    · exact GF_pr s v (fun x hx => hr x (List.mem_cons_of_mem _ hx)) hS h
theorem rts_pr : ∀ (f : FT) (v : Int) {z : Int}, z ∈ f.rts → (v, z) ∈ f.pr v
  | .nil, _, _, h => by cases h
  | .nd w c s, v, z, h => by
    simp only [FT.rts, List.mem_cons] at h
    simp only [FT.pr, List.mem_cons, List.mem_append]
    rcases h with rfl | h
    · exact .inl rfl
    · exact .inr (.inr (rts_pr s v h))
theorem GF_edge {pa : Int → Int → Prop} : ∀ (f : FT) (v : Int), GF pa f v → ∀ y, y ∈ f.vs → ∀ z, (pa z y ∨ pa y z) → (y, z) ∈ f.pr v ∨ (z, y) ∈ f.pr v
  | .nil, _, _, y, h, _, _ => by cases h
  | .nd w c s, v, ⟨⟨hR, hG⟩, hS⟩, y, h, z, hz => by
    simp only [FT.vs, List.mem_cons, List.mem_append] at h
    simp only [FT.pr, List.mem_cons, List.mem_append]
    rcases h with rfl | h | h
    · by_cases hzv : z = v
      · subst hzv; exact .inr (.inl rfl)
      · exact .inl (.inr (.inl (rts_pr c y ((hR.2 z).2 ⟨hzv, hz⟩))))
    · rcases GF_edge c w hG y h z hz with h | h
      · exact .inl (.inr (.inl h))
      · exact .inr (.inr (.inl h))
    · rcases GF_edge s v hS y h z hz with h | h
      · exact .inl (.inr (.inr h))
      · exact .inr (.inr (.inr h))
section
variable {n : Nat} {E : List Ed} (hE : ∀ e, e ∈ E → edB n e = true) {v : Int} {f : FT} (h : GT n E v f)
include hE h
theorem GT.con (x : Int) : x ∈ v :: f.vs ↔ Con E v x := by
  constructor
  · intro hx
    rw [List.mem_cons] at hx
    rcases hx with rfl | hx
    · exact .refl _
    · refine pr_reach f v (Con E v) (.refl _) (fun a b hab ha => ?_) x hx
      have := GF_pr f v (fun w hw => ((h.rt.2 w).1 hw).2) h.gf hab
      have had : ad E a b := by
        rcases this with h | h
        · exact ad_symm h
        · exact h
      exact ha.trans (con_ed ((ed_ad hE).2 had))
  · intro hc
    have step : ∀ y z, y ∈ v :: f.vs → ad E y z → z ∈ v :: f.vs := by
      intro y z hy hz
      rw [List.mem_cons] at hy
      rcases hy with rfl | hy
      · have := ad_rg hE hz
        exact List.mem_cons_of_mem _ (rts_vs f ((h.rt.2 z).2 ⟨by omega, .inr hz⟩))
      · rcases GF_closed f v h.gf y hy z (.inr hz) with h | h
        · exact List.mem_cons_of_mem _ h
        · rw [h]; exact List.mem_cons_self ..
    induction hc with
    | refl => exact List.mem_cons_self ..
    | fwd _ he ih => exact step _ _ ih (.inl he)
    | bwd _ he ih => exact step _ _ ih (.inr he)
theorem GT.edge {a b : Int} (ha : a ∈ v :: f.vs) (hab : ad E a b) : (a, b) ∈ f.pr v ∨ (b, a) ∈ f.pr v := by
  rw [List.mem_cons] at ha
  rcases ha with rfl | ha
  · have := ad_rg hE hab
    exact .inl (rts_pr f a ((h.rt.2 b).2 ⟨by omega, .inr hab⟩))
  · exact GF_edge f v h.gf a ha b (.inr hab)
end
structure FoOk (n : Nat) (E : List Ed) (Fs : List (Int × FT)) : Prop where
  gt : ∀ p, p ∈ Fs → GT n E p.1 p.2
  mn : ∀ p, p ∈ Fs → ∀ x, x ∈ p.1 :: p.2.vs → p.1 ≤ x
  so : Fs.Pairwise (fun p q => p.1 < q.1)
  cv : ∀ x : Int, 0 ≤ x → x < n → ∃ p, p ∈ Fs ∧ x ∈ p.1 :: p.2.vs
section
variable {n : Nat} {E : List Ed} (hE : ∀ e, e ∈ E → edB n e = true) {Fs : List (Int × FT)} (h : FoOk n E Fs)
include hE h
theorem FoOk.same {p q : Int × FT} (hp : p ∈ Fs) (hq : q ∈ Fs) {x y : Int} (hx : x ∈ p.1 :: p.2.vs) (hy : y ∈ q.1 :: q.2.vs) (hc : Con E x y) : p.1 = q.1 := by
  have c1 := ((h.gt p hp).con hE x).1 hx
  have c2 := ((h.gt q hq).con hE y).1 hy
  have c3 : Con E p.1 q.1 := (c1.trans hc).trans c2.symm
  have l1 := h.mn p hp q.1 (((h.gt p hp).con hE _).2 c3)
  have l2 := h.mn q hq p.1 (((h.gt q hq).con hE _).2 c3.symm)
  omega
omit hE in
theorem FoOk.size : Fs.length ≤ n := by
  have := nodup_le n (Fs.map (·.1)) (by
    have : (Fs.map (·.1)).Pairwise (· < ·) := by rw [List.pairwise_map]; exact h.so
    exact this.imp fun h => by omega) (fun x hx => by
    obtain ⟨p, hp, rfl⟩ := List.mem_map.1 hx
    exact (h.gt p hp).rg _ (List.mem_cons_self ..))
  rwa [List.length_map] at this
end
def gE (L : List Led) : List Ed := L.map fun x => (x.1, x.2.1)
def lbl (n : Nat) (L : List Led) (k : Int) (v : Int) : Int := (labs n (atE L k)).getD v.toNat 0
def cmp (n : Nat) (L : List Led) (k : Int) (v : Int) : Nat := (labs n (atE L k)).count (lbl n L k v)
structure WOk (n : Nat) (L : List Led) : Prop where
  gr : grB n (gE L) = true
  lv : ∀ x, x ∈ L → 0 ≤ x.2.2.1 ∧ x.2.2.1 ≤ 4
  nc : NoCyc (atE L 0)
  un : ∀ x, x ∈ L → x.2.2.2 = false → lbl n L x.2.2.1 x.1 = lbl n L x.2.2.1 x.2.1
  sz : ∀ k : Nat, 1 ≤ k → k ≤ 4 → ∀ e, e ∈ atE L k → cmp n L k e.1 ≤ n / 2 ^ k
theorem atE_sub (L : List Led) (k : Int) : (atE L k).Sublist (gE L) := List.Sublist.map _ List.filter_sublist
theorem atE_mono {L : List Led} {j k : Int} (h : j ≤ k) : ∀ e, e ∈ atE L k → e ∈ atE L j := by
  intro e he
  unfold atE at he ⊢
  rw [List.mem_map] at he ⊢
  obtain ⟨x, h1, h2⟩ := he
  refine ⟨x, ?_, h2⟩
  simp only [List.mem_filter, Bool.and_eq_true, decide_eq_true_eq] at h1 ⊢
  exact ⟨h1.1, h1.2.1, by omega⟩
section
variable {n : Nat} {L : List Led} (hg : grB n (gE L) = true)
include hg
theorem gr_n : 1 ≤ n ∧ n ≤ 12 := by
  unfold grB at hg
  rw [Bool.and_eq_true, inB_t] at hg
  omega
theorem gr_e : (∀ e, e ∈ gE L → edB n e = true) ∧ (gE L).Nodup ∧ L.length ≤ 66 := by
  unfold grB at hg
  rw [Bool.and_eq_true] at hg
  obtain ⟨h1, h2, h3⟩ := eOk_srt hg.2
  refine ⟨h1, h2.imp fun {a b} h => ?_, by unfold gE at h3; rwa [List.length_map] at h3⟩
  rintro rfl
  unfold lsB at h
  simp at h
theorem gr_at (k : Int) : (∀ e, e ∈ atE L k → edB n e = true) ∧ (atE L k).Nodup ∧ (atE L k).length ≤ 66 := by
  obtain ⟨h1, h2, h3⟩ := gr_e hg
  refine ⟨fun e he => h1 e ((atE_sub L k).subset he), h2.sublist (atE_sub L k), ?_⟩
  have := (atE_sub L k).length_le
  unfold gE at this
  rw [List.length_map] at this
  omega
theorem gr_ein (k : Int) : EIn n (atE L k) := fun e he => by
  have := edB_in ((gr_at hg k).1 e he)
  exact ⟨this.1, this.2.1, this.2.2.1, this.2.2.2.1⟩
theorem lbl_iff (k : Int) {u v : Int} (hu : 0 ≤ u ∧ u < n) (hv : 0 ≤ v ∧ v < n) : lbl n L k u = lbl n L k v ↔ Con (atE L k) u v := by
  have hl := labs_ok (gr_ein hg k)
  have := hl.iff (getD_at (show u.toNat < (labs n (atE L k)).length by rw [labs_len]; omega)) (getD_at (show v.toNat < (labs n (atE L k)).length by rw [labs_len]; omega))
  rw [Int.toNat_of_nonneg hu.1, Int.toNat_of_nonneg hv.1] at this
  exact this
end
/-- What the search does with one. -/
def upL (k : Int) : Int := if 4 < k + 1 then 4 else k + 1
def rzL (k : Int) (x : Led) : Led := (x.1, x.2.1, upL k, x.2.2.2)
def p1L (s : Int → Bool) (k : Int) (x : Led) : Nat := if x.2.2.2 = true ∧ x.2.2.1 = k ∧ s x.1 = true then 1 else 0
/-- How many hang together with one. -/
def cz (n : Nat) (E : List Ed) (v : Int) : Nat := (labs n E).count ((labs n E).getD v.toNat 0)
theorem mem_atE {L : List Led} {k : Int} {e : Ed} : e ∈ atE L k ↔ ∃ y, y ∈ L ∧ y.2.2.2 = true ∧ k ≤ y.2.2.1 ∧ (y.1, y.2.1) = e := by
  unfold atE
  simp only [List.mem_map, List.mem_filter, Bool.and_eq_true, decide_eq_true_eq, and_assoc]
/-- What holds while one looks for what takes the place of `e`, on the levels down from `k`. -/
structure Inv (n : Nat) (M : List Led) (e : Ed) (k : Int) : Prop where
  gr : grB n (gE M) = true
  lv : ∀ x, x ∈ M → 0 ≤ x.2.2.1 ∧ x.2.2.1 ≤ 4
  nc : NoCyc (atE M 0)
  dis : ¬ Con (atE M 0) e.1 e.2
  hi : ∀ x, x ∈ M → x.2.2.2 = false → k < x.2.2.1 → Con (atE M x.2.2.1) x.1 x.2.1
  lo : ∀ x, x ∈ M → x.2.2.2 = false → x.2.2.1 ≤ k → Con (atE M x.2.2.1 ++ [e]) x.1 x.2.1
  sz : ∀ j : Nat, 1 ≤ j → j ≤ 4 → ∀ f, f ∈ atE M j → cz n (atE M j) f.1 ≤ n / 2 ^ j
  sz' : ∀ j : Nat, (j : Int) ≤ k → cz n (atE M j ++ [e]) e.1 ≤ n / 2 ^ j
section
variable {n : Nat} {M : List Led} {e : Ed} {k : Nat} (hI : Inv n M e (k : Int)) (k3 : k ≤ 3) (ha : 0 ≤ e.1 ∧ e.1 < n) (hb : 0 ≤ e.2 ∧ e.2 < n)
  {r o : Int} (hro : (r = e.1 ∧ o = e.2) ∨ (r = e.2 ∧ o = e.1)) (hsm : cz n (atE M k) r ≤ cz n (atE M k) o)
  {s : Int → Bool} (hs : ∀ x : Int, 0 ≤ x ∧ x < n → (s x = true ↔ Con (atE M k) r x))
include hI
theorem Inv.rg {x : Led} (hx : x ∈ M) : (0 ≤ x.1 ∧ x.1 < n) ∧ (0 ≤ x.2.1 ∧ x.2.1 < n) := by
  have hr := edB_in ((gr_e hI.gr).1 (x.1, x.2.1) (List.mem_map.2 ⟨x, hx, rfl⟩))
  simp only at hr
  omega
end
def f1 (s : Int → Bool) (k : Int) (y : Led) : Led := if p1L s k y = 1 then rzL k y else y
def allE : List Ed := (List.range 12).flatMap fun (b : Nat) => (List.range b).map fun (a : Nat) => ((a : Int), (b : Int))
theorem allE_len : allE.length = 66 := by decide
theorem gr_len {n : Nat} {es : List Ed} (h : GrOk n es) : es.length ≤ 66 := by
  rw [← allE_len]
  refine nodup_sub _ _ (srt_nodup h.2.2.1) fun x hx => ?_
  have := edB_in (h.2.2.2 x hx)
  have h12 := h.2.1
  unfold allE
  rw [List.mem_flatMap]
  refine ⟨x.2.toNat, List.mem_range.2 (by omega), List.mem_map.2 ⟨x.1.toNat, List.mem_range.2 (by omega), ?_⟩⟩
  rw [Int.toNat_of_nonneg (by omega), Int.toNat_of_nonneg (by omega)]
theorem gr_of {n : Nat} {es : List Ed} (h : GrOk n es) : grB n es = true := by
  unfold grB
  rw [show inB (n : Int) 1 12 = true from inB_t.2 (by have := h.1; have := h.2.1; omega), eOk_of h (gr_len h)]
  rfl
theorem WOk.con {n : Nat} {L : List Led} (hw : WOk n L) {y : Led} (hy : y ∈ L) (ht : y.2.2.2 = false) : Con (atE L y.2.2.1) y.1 y.2.1 := by
  have hr := edB_in ((gr_e hw.gr).1 (y.1, y.2.1) (List.mem_map.2 ⟨y, hy, rfl⟩))
  exact (lbl_iff hw.gr _ ⟨hr.1, hr.2.1⟩ ⟨hr.2.2.1, hr.2.2.2.1⟩).1 (hw.un y hy ht)
/-- The forest of the lowest level tells what the graph tells. -/
theorem WOk.same {n : Nat} {L : List Led} (hw : WOk n L) (u v : Int) : Con (atE L 0) u v ↔ Con (gE L) u v := by
  constructor
  · intro h
    exact h.mono fun e he => (atE_sub L 0).subset he
  · intro h
    refine h.sub fun e he => ?_
    obtain ⟨y, hy, rfl⟩ := List.mem_map.1 he
    have hl := (hw.lv y hy).1
    cases ht : y.2.2.2 with
    | true => exact .of (mem_atE.2 ⟨y, hy, ht, hl, rfl⟩)
    | false => exact (hw.con hy ht).mono (atE_mono hl)
theorem WOk.labs {n : Nat} {L : List Led} (hw : WOk n L) : labs n (atE L 0) = labs n (gE L) := by
  have hE : EIn n (gE L) := fun e he => by
    have := edB_in ((gr_e hw.gr).1 e he)
    exact ⟨this.1, this.2.1, this.2.2.1, this.2.2.2.1⟩
  exact (labs_ok (gr_ein hw.gr 0)).uniq (labs_ok hE) hw.same
theorem lb_labs {n : Nat} {E : List Ed} (h : EIn n E) : lbOk (n : Int) (labs n E) = true := by
  have hL := labs_ok h
  unfold lbOk
  rw [if_pos (by rw [labs_len]), if_pos]
  intro i hi
  have hg := List.getElem?_eq_getElem hi
  unfold lbP
  rw [hg]
  simp only
  have h1 := hL.le hg
  have h2 := hL.lt hg
  rw [hL.self hg, inB_t.2 (by omega)]
  simp
/-- At a vertex. -/
def atV (v : Int) (y : Ed) : Bool := decide (y.1 = v ∨ y.2 = v)
/-- A right shard. -/
structure ShR (x0 : Int) (n : Nat) (L : List Led) (y : An) : Prop where
  id : 1 ≤ x0 ∧ x0 ≤ 3
  web : WOk n L
  an : blA y = true ∨ ansB n y = true ∧ y.2.2.2 = labs n (atE L 0)
theorem ShR.len {x0 : Int} {n : Nat} {L : List Led} {y : An} (h : ShR x0 n L y) : L.length ≤ 66 ∧ y.2.2.1.length ≤ 66 ∧ y.2.2.2.length ≤ 12 ∧ 0 ≤ y.1 ∧ y.1 ≤ 100000 := by
  have h1 := (gr_e h.web.gr).2.2
  have h12 := (gr_n h.web.gr).2
  rcases h.an with hb | ⟨ha, hl⟩
  · unfold blA at hb
    simp only [Bool.and_eq_true, Bool.not_eq_true', decide_eq_true_eq] at hb
    omega
  · unfold ansB at ha
    simp only [Bool.and_eq_true] at ha
    have h2 := inB_t.1 ha.2.1
    have h3 := eOk_len ha.2.2.1
    rw [hl, labs_len]
    omega
/-- What an order makes of the edges. -/
structure Dne (n : Nat) (L L' : List Led) (o : Or') (y : An) : Prop where
  num : y.1 = o.1
  lab : y.2.2.2 = labs n (atE L' 0)
  add : o.2.1 = 1 ∨ o.2.1 = 4 → (∀ x, x ∈ gE L' ↔ x ∈ gE L ∨ x ∈ o.2.2.1) ∧ ((∀ z, z ∈ o.2.2.1 → z ∉ gE L) → y.2.1 = true) ∧ y.2.2.1 = [] ∧ ∀ e, o.2.2.1 = [e] → y.2.1 = !decide (e ∈ gE L)
  take : o.2.1 = 2 → ∃ e, o.2.2.1 = [e] ∧ gE L' = del (gE L) e ∧ y.2.1 = decide (e ∈ gE L) ∧ y.2.2.1 = []
  rel : o.2.1 = 3 → (∀ x, x ∈ gE L' ↔ x ∈ gE L ∧ atV o.2.2.2 x = false) ∧ y.2.1 = true ∧ y.2.2.1 = (gE L).filter (atV o.2.2.2) ∧ (y.2.2.1 = [] → L' = L)
theorem sA_app (l : List Sd) (x : Sd) (k : Int) : sA (l ++ [x]) k = if 0 ≤ sA l k then sA l k else if x.1 = k then (l.length : Int) else -1 := by
  unfold sA
  rw [List.findIdx_append, List.length_append]
  by_cases h : l.findIdx (fun y => decide (y.1 = k)) < l.length
  · have h' : l.findIdx (fun y => decide (y.1 = k)) < l.length + [x].length := by omega
    simp only [if_pos h, if_pos h']
    rw [if_pos (by omega)]
  · simp only [if_neg h]
    rw [if_neg (show ¬ (0 : Int) ≤ -1 from by decide)]
    by_cases hx : x.1 = k
    · have h0 : [x].findIdx (fun y => decide (y.1 = k)) = 0 := by simp [List.findIdx_cons, hx]
      rw [h0, if_pos hx, if_pos (by simp only [List.length_cons, List.length_nil]; omega)]
      omega
    · have h0 : [x].findIdx (fun y => decide (y.1 = k)) = 1 := by simp [List.findIdx_cons, hx]
      rw [h0, if_neg hx, if_neg (by simp only [List.length_cons, List.length_nil]; omega)]
theorem oP4_app {l : List Sd} {i op a b v : Int} (h : oP4 l) (hi : sA l i < 0) (hv : 1 ≤ v ∧ v ≤ 3) : oP4 (l ++ [(i, i, op, a, b, v)]) := by
  intro j hj
  rw [List.length_append] at hj
  simp only [List.length_cons, List.length_nil] at hj
  unfold p4 p4c
  by_cases hjl : j < l.length
  · have h1 := h j hjl
    unfold p4 p4c at h1
    have hg : (l ++ [(i, i, op, a, b, v)]).getD j (0, 0, 0, 0, 0, 0) = l.getD j (0, 0, 0, 0, 0, 0) := by
      rw [List.getD_eq_getElem?_getD, List.getD_eq_getElem?_getD, List.getElem?_append_left hjl]
    rw [hg]
    simp only [Bool.and_eq_true, decide_eq_true_eq] at h1 ⊢
    refine ⟨h1.1, h1.2.1, ?_⟩
    rw [sA_app, if_pos (by omega)]
    exact h1.2.2
  · have hjl' : j = l.length := by omega
    subst hjl'
    have hg : (l ++ [(i, i, op, a, b, v)]).getD l.length (0, 0, 0, 0, 0, 0) = (i, i, op, a, b, v) := by
      rw [List.getD_eq_getElem?_getD, List.getElem?_append_right (Nat.le_refl _), Nat.sub_self]
      rfl
    rw [hg]
    simp only [Bool.and_eq_true, decide_eq_true_eq]
    refine ⟨trivial, inB_t.2 hv, ?_⟩
    rw [sA_app, if_neg (by omega), if_pos rfl]
abbrev Shd := List Led × An
structure Ply (n : Nat) (own : List Int) (cuts : List Ed) (lab : List (List Int)) (nums : List Int) (said : List Sd) (ss : List Shd) (g : List Ed) (c : Nat) : Prop where
  n2 : 2 ≤ n ∧ n ≤ 12
  k : 1 ≤ ss.length ∧ ss.length ≤ 3 ∧ lab.length = ss.length ∧ nums.length = ss.length
  owr : own.length = n ∧ ∀ v : Int, 0 ≤ v ∧ v < n → 1 ≤ own.getD v.toNat 0 ∧ own.getD v.toNat 0 ≤ ss.length
  cgr : GrOk n cuts
  cut : ∀ e, e ∈ cuts → own.getD e.1.toNat 0 ≠ own.getD e.2.toNat 0
  sh : ∀ (j : Nat) (L : List Led) (y : An), ss[j]? = some (L, y) → ShR ((j : Int) + 1) n L y ∧ nums.getD j 0 = y.1 ∧ y.1 ≤ c ∧ lab.getD j [] = labs n (gE L) ∧ ∀ e, e ∈ gE L → own.getD e.1.toNat 0 = (j : Int) + 1 ∧ own.getD e.2.toNat 0 = (j : Int) + 1
  gr : GrOk n g
  gin : ∀ e, e ∈ g ↔ e ∈ cuts ∨ ∃ (j : Nat) (L : List Led) (y : An), ss[j]? = some (L, y) ∧ e ∈ gE L
  sdo : oP4 said ∧ said.length ≤ c
section
variable {n : Nat} {own : List Int} {cuts : List Ed} {lab : List (List Int)} {nums : List Int} {said : List Sd} {ss : List Shd} {g : List Ed} {c : Nat}
theorem Ply.at (h : Ply n own cuts lab nums said ss g c) {s : Int} (h1 : 1 ≤ s ∧ s ≤ ss.length) : ∃ L y, ss[(s - 1).toNat]? = some (L, y) := by
  have hl : (s - 1).toNat < ss.length := by omega
  exact ⟨_, _, List.getElem?_eq_getElem hl⟩
theorem gE_in {x0 : Int} {L : List Led} {y : An} (h : ShR x0 n L y) : EIn n (gE L) := fun e he => by
  have := edB_in ((gr_e h.web.gr).1 e he)
  exact ⟨this.1, this.2.1, this.2.2.1, this.2.2.2.1⟩
theorem Ply.hd (h : Ply n own cuts lab nums said ss g c) (hc : c ≤ 80) {t : Bool} (ht : t = true) : hdB n own cuts lab nums said t = true := by
  obtain ⟨k1, k2, k3, k4⟩ := h.k
  have hn := h.n2
  unfold hdB
  rw [decide_eq_true_eq]
  refine ⟨⟨inB_t.2 (by omega), inB_t.2 (by omega), by omega⟩, fun i hi => ?_, ⟨by rw [h.owr.1], eOk_of h.cgr (gr_len h.cgr)⟩, fun i hi => ?_, fun i hi => ?_, ⟨h.sdo.1, by have := h.sdo.2; omega⟩, ht⟩
  · have hl : i < ss.length := by omega
    obtain ⟨s1, s2, s3, s4, _⟩ := h.sh i _ _ (List.getElem?_eq_getElem hl)
    have h0 := s1.len.2.2.2.1
    unfold p3
    rw [s4, s2, lb_labs (gE_in s1), inB_t.2 (by omega)]
    rfl
  · rw [h.owr.1] at hi
    have := h.owr.2 (i : Int) (by omega)
    rw [Int.toNat_natCast] at this
    unfold p1
    exact inB_t.2 (by omega)
  · unfold p2
    have e : cuts.getD i (0, 0) = cuts[i] := by rw [List.getD_eq_getElem?_getD, List.getElem?_eq_getElem hi]; rfl
    rw [e, decide_eq_false (h.cut _ (List.getElem_mem hi))]
    rfl
/-- Only one shard has an edge both ends of which it owns. -/
theorem Ply.one (h : Ply n own cuts lab nums said ss g c) {e : Ed} {s : Int} (h1 : own.getD e.1.toNat 0 = s) (h2 : own.getD e.2.toNat 0 = s) {L : List Led} {y : An} (hs : ss[(s - 1).toNat]? = some (L, y)) (s1 : 1 ≤ s) : e ∈ g ↔ e ∈ gE L := by
  rw [h.gin]
  constructor
  · rintro (hc | ⟨j, L', y', hj, he⟩)
    · exact absurd (h1.trans h2.symm) (h.cut e hc)
    · have := (h.sh j L' y' hj).2.2.2.2 e he
      have hjs : j = (s - 1).toNat := by omega
      subst hjs
      rw [hs] at hj
      cases hj
      exact he
  · intro he
    exact .inr ⟨_, _, _, hs, he⟩
/-- What is owned by two stands among the cuts. -/
theorem Ply.two (h : Ply n own cuts lab nums said ss g c) {e : Ed} (h1 : own.getD e.1.toNat 0 ≠ own.getD e.2.toNat 0) : e ∈ g ↔ e ∈ cuts := by
  rw [h.gin]
  constructor
  · rintro (hc | ⟨j, L', y', hj, he⟩)
    · exact hc
    · have := (h.sh j L' y' hj).2.2.2.2 e he
      exact absurd (this.1.trans this.2.symm) h1
  · exact .inl
theorem Ply.onw (h : Ply n own cuts lab nums said ss g c) {said' : List Sd} (hs : oP4 said' ∧ said'.length ≤ c + 1) : Ply n own cuts lab nums said' ss g (c + 1) :=
  ⟨h.n2, h.k, h.owr, h.cgr, h.cut, fun j L y hj => by
    obtain ⟨s1, s2, s3, s4, s5⟩ := h.sh j L y hj
    exact ⟨s1, s2, by omega, s4, s5⟩, h.gr, h.gin, hs⟩
end
/-- What a head waits for. -/
inductive Pnd (n : Nat) (own : List Int) (cuts : List Ed) (lab : List (List Int)) (nums : List Int) (said : List Sd) (ss : List Shd) (g : List Ed) (c : Nat) : Int → Int → Int → Int → Int → Int → Int → List Ed → Int → Prop
  | idle (h : Ply n own cuts lab nums said ss g c) : Pnd n own cuts lab nums said ss g c 0 0 0 0 0 0 0 [] 0
  | chg {i op a b : Int} (h : Ply n own cuts lab nums said ss g c) (hi : inB i 1 100000 = true) (hs : sA said i < 0) (ho : op = 1 ∨ op = 2) (ha : 0 ≤ a ∧ a < n) (hb : 0 ≤ b ∧ b < n) (hab : a ≠ b) (hw : own.getD a.toNat 0 = own.getD b.toNat 0) :
      Pnd n own cuts lab nums said ss g c i op a b (own.getD a.toNat 0) (nums.getD (own.getD a.toNat 0 - 1).toNat 0 + 1) op [edO a b] 0
  | rel {i a b : Int} (h : Ply n own cuts lab nums said ss g c) (hi : inB i 1 100000 = true) (hs : sA said i < 0) (ha : 0 ≤ a ∧ a < n) (hb : 1 ≤ b ∧ b ≤ ss.length) (hw : own.getD a.toNat 0 ≠ b) :
      Pnd n own cuts lab nums said ss g c i 4 a b (own.getD a.toNat 0) (nums.getD (own.getD a.toNat 0 - 1).toNat 0 + 1) 3 [] a
  | acc {i a b : Int} {es g' : List Ed} (h : Ply n own cuts lab nums said ss g' c) (hi : inB i 1 100000 = true) (hs : sA said i < 0) (ha : 0 ≤ a ∧ a < n) (hb : 1 ≤ b ∧ b ≤ ss.length) (hes : GrOk n es ∧ es ≠ []) (hin : ∀ e, e ∈ es → own.getD e.1.toNat 0 = b ∧ own.getD e.2.toNat 0 = b ∧ e ∉ g') (hgr : GrOk n g) (hg : ∀ e, e ∈ g ↔ e ∈ g' ∨ e ∈ es) :
      Pnd n own cuts lab nums said ss g c i 4 a b b (nums.getD (b - 1).toNat 0 + 1) 4 es 0
section
variable {n : Nat} {own : List Int} {cuts : List Ed} {lab : List (List Int)} {nums : List Int} {said : List Sd} {ss : List Shd} {g : List Ed} {c : Nat} {x5 x6 x7 x8 x9 x10 x11 : Int} {x12 : List Ed} {x13 : Int}
theorem Pnd.ply (h : Pnd n own cuts lab nums said ss g c x5 x6 x7 x8 x9 x10 x11 x12 x13) : ∃ g', Ply n own cuts lab nums said ss g' c := by
  cases h with
  | idle h => exact ⟨_, h⟩
  | chg h => exact ⟨_, h⟩
  | rel h => exact ⟨_, h⟩
  | acc h => exact ⟨_, h⟩
theorem ord_of {o : Or'} (hn : 2 ≤ n ∧ n ≤ 12) (h1 : 1 ≤ o.1 ∧ o.1 ≤ 100000) (h2 : (o.2.1 = 1 ∨ o.2.1 = 2) ∧ o.2.2.1.length = 1 ∧ o.2.2.2 = 0 ∨ o.2.1 = 3 ∧ o.2.2.1 = [] ∧ (0 ≤ o.2.2.2 ∧ o.2.2.2 < n) ∨ o.2.1 = 4 ∧ o.2.2.1 ≠ [] ∧ o.2.2.2 = 0) (hg : GrOk n o.2.2.1) : ordB n o = true := by
  unfold ordB
  rw [inB_t.2 (by omega), inB_t.2 h1, inB_t.2 (by omega), eOk_of hg (gr_len hg)]
  rcases h2 with ⟨h2, h3, h4⟩ | ⟨h2, h3, h4⟩ | ⟨h2, h3, h4⟩
  · rw [if_neg (by omega), if_neg (by omega), decide_eq_true h3, decide_eq_true h4]
    rfl
  · rw [if_pos h2, decide_eq_true (by rw [h3]; rfl), inB_t.2 (by omega)]
    rfl
  · rw [if_neg (by omega), if_pos h2, decide_eq_true (List.length_pos_iff.2 h3), decide_eq_true h4]
    rfl
theorem edO_ok {a b : Int} (hn : 2 ≤ n ∧ n ≤ 12) (ha : 0 ≤ a ∧ a < n) (hb : 0 ≤ b ∧ b < n) (hab : a ≠ b) : edB n (edO a b) = true := by
  unfold edO edB
  split
  · rw [inB_t.2 (by omega), inB_t.2 (by simp only; omega), inB_t.2 (by simp only; omega), decide_eq_true (by assumption)]
    rfl
  · rw [inB_t.2 (by omega), inB_t.2 (by simp only; omega), inB_t.2 (by simp only; omega), decide_eq_true (by simp only; omega)]
    rfl
theorem gr_one {e : Ed} (hn : 2 ≤ n ∧ n ≤ 12) (he : edB n e = true) : GrOk n [e] :=
  ⟨by omega, by omega, List.pairwise_singleton _ _, fun x hx => by rw [List.mem_singleton.1 hx]; exact he⟩
theorem gr_nil (hn : 2 ≤ n ∧ n ≤ 12) : GrOk n [] := ⟨by omega, by omega, List.Pairwise.nil, fun x hx => by cases hx⟩
/-- The order that is waited for is right. -/
theorem Pnd.ord (h : Pnd n own cuts lab nums said ss g c x5 x6 x7 x8 x9 x10 x11 x12 x13) (h9 : x9 ≠ 0) (hc : c ≤ 80) :
    (1 ≤ x9 ∧ x9 ≤ ss.length) ∧ ∃ L y, ss[(x9 - 1).toNat]? = some (L, y) ∧ ordB n (x10, x11, x12, x13) = true ∧ x10 = y.1 + 1 ∧ x10 = nums.getD (x9 - 1).toNat 0 + 1 := by
  have num : ∀ {g'} (hP : Ply n own cuts lab nums said ss g' c) {s : Int}, 1 ≤ s ∧ s ≤ ss.length → ∃ L y, ss[(s - 1).toNat]? = some (L, y) ∧ nums.getD (s - 1).toNat 0 = y.1 ∧ 0 ≤ y.1 ∧ y.1 ≤ c := by
    intro g' hP s hs
    obtain ⟨L, y, hy⟩ := hP.at hs
    obtain ⟨s1, s2, s3, _⟩ := hP.sh _ _ _ hy
    exact ⟨L, y, hy, s2, s1.len.2.2.2.1, s3⟩
  cases h with
  | idle h => exact absurd rfl h9
  | chg h hi hs ho ha hb hab hw =>
    have hr := h.owr.2 _ ha
    obtain ⟨L, y, hy, y1, y2, y3⟩ := num h hr
    exact ⟨hr, L, y, hy, ord_of h.n2 (by simp only; omega) (.inl ⟨ho, rfl, rfl⟩) (gr_one h.n2 (edO_ok h.n2 ha hb hab)), by omega, rfl⟩
  | rel h hi hs ha hb hw =>
    have hr := h.owr.2 _ ha
    obtain ⟨L, y, hy, y1, y2, y3⟩ := num h hr
    exact ⟨hr, L, y, hy, ord_of h.n2 (by simp only; omega) (.inr (.inl ⟨rfl, rfl, ha⟩)) (gr_nil h.n2), by omega, rfl⟩
  | acc h hi hs ha hb hes hin hgr hg =>
    obtain ⟨L, y, hy, y1, y2, y3⟩ := num h hb
    exact ⟨hb, L, y, hy, ord_of h.n2 (by simp only; omega) (.inr (.inr ⟨rfl, hes.2, rfl⟩)) hes.1, by omega, rfl⟩
theorem rt_of {k : Nat} {op a b : Int} (h : (op = 1 ∨ op = 2) ∧ (0 ≤ a ∧ a < n) ∧ (0 ≤ b ∧ b < n) ∧ a ≠ b ∨ op = 4 ∧ (0 ≤ a ∧ a < n) ∧ (1 ≤ b ∧ b ≤ k)) : rtB n k op a b = true := by
  unfold rtB
  rcases h with ⟨h1, h2, h3, h4⟩ | ⟨h1, h2, h3⟩
  · rw [inB_t.2 (by omega), inB_t.2 (by omega), decide_eq_false (by omega), cond_false, inB_t.2 (by omega), decide_eq_false h4]
    rfl
  · rw [inB_t.2 (by omega), inB_t.2 (by omega), decide_eq_true h1, cond_true, inB_t.2 (by omega)]
    rfl
theorem Pnd.tk (h : Pnd n own cuts lab nums said ss g c x5 x6 x7 x8 x9 x10 x11 x12 x13) (hc : c ≤ 80) : tkB n lab.length nums said x5 x6 x7 x8 x9 (x10, x11, x12, x13) = true := by
  unfold tkB
  by_cases h9 : x9 = 0
  · have : tB x5 x6 x7 x8 x9 (x10, x11, x12, x13) = true := by
      have hr : ∀ {g'} (hP : Ply n own cuts lab nums said ss g' c) {a : Int}, 0 ≤ a ∧ a < n → own.getD a.toNat 0 ≠ 0 := by
        intro g' hP a ha
        have := hP.owr.2 a ha
        omega
      cases h with
      | idle h => rfl
      | chg h hi hs ho ha hb hab hw => exact absurd h9 (hr h ha)
      | rel h hi hs ha hb hw => exact absurd h9 (hr h ha)
      | acc h hi hs ha hb hes hin hgr hg => omega
    rw [this]
    rfl
  · obtain ⟨h1, L, y, h2, h3, h4, h5⟩ := h.ord h9 hc
    obtain ⟨g', hP⟩ := h.ply
    have hk := hP.k
    have hy := (hP.sh _ _ _ h2).1.len
    have hlast : (inB x5 1 100000 && (!decide (x6 = 3) && rtB n lab.length x6 x7 x8)) = true ∧ sA said x5 < 0 := by
      cases h with
      | idle h => exact absurd rfl h9
      | chg h hi hs ho ha hb hab hw =>
        rw [hi, decide_eq_false (by omega), rt_of (.inl ⟨ho, ha, hb, hab⟩)]
        exact ⟨rfl, hs⟩
      | rel h hi hs ha hb hw =>
        rw [hi, rt_of (.inr ⟨rfl, ha, by omega⟩)]
        exact ⟨rfl, hs⟩
      | acc h hi hs ha hb hes hin hgr hg =>
        rw [hi, rt_of (.inr ⟨rfl, ha, by omega⟩)]
        exact ⟨rfl, hs⟩
    rw [hlast.1, inB_t.2 (show 1 ≤ x9 ∧ x9 ≤ (lab.length : Int) from by omega), h3, wr (n := nums.getD (x9 - 1).toNat 0 + 1) (by omega) (by omega), decide_eq_true (show (x10, x11, x12, x13).1 = nums.getD (x9 - 1).toNat 0 + 1 from h5), decide_eq_true hlast.2]
    simp
theorem Pnd.hd (h : Pnd n own cuts lab nums said ss g c x5 x6 x7 x8 x9 x10 x11 x12 x13) (hc : c ≤ 80) : hdB n own cuts lab nums said (tkB n lab.length nums said x5 x6 x7 x8 x9 (x10, x11, x12, x13)) = true := by
  obtain ⟨g', hP⟩ := h.ply
  exact hP.hd hc (h.tk hc)
end
section
variable {n : Nat} {g : List Ed} (hg : GrOk n g)
include hg
theorem mdl_head {op a b : Int} (h : op = 1 ∨ op = 2) (ha : 0 ≤ a ∧ a < n) (hb : 0 ≤ b ∧ b < n) (hab : a ≠ b) :
    mdl n g op a b = (let r := if op = 2 then takR n g (edO a b) else addR n g (edO a b); if r.2.2 then (r.1, r.2.1, 1) else ((n : Int), g, 2)) := by
  unfold mdl
  rw [inB_t.2 (by omega), decide_eq_true ha.1, decide_eq_true ha.2, decide_eq_true hb.1, decide_eq_true hb.2, decide_eq_false hab]
  simp only [Bool.and_self, if_true, Bool.false_and, Bool.not_false]
  rw [if_neg (by omega), if_neg (by omega)]
theorem mdl_new {a b : Int} (ha : 0 ≤ a ∧ a < n) (hb : 0 ≤ b ∧ b < n) (hab : a ≠ b) (he : edO a b ∉ g) : mdl n g 1 a b = ((n : Int), ins g (edO a b), 1) ∧ mdl n g 2 a b = ((n : Int), g, 2) := by
  have hn : 2 ≤ n ∧ n ≤ 12 := by have := hg.1; have := hg.2.1; omega
  rw [mdl_head hg (.inl rfl) ha hb hab, mdl_head hg (.inr rfl) ha hb hab]
  unfold takR addR
  rw [gr_of hg, edO_ok hn ha hb hab, decide_eq_false he]
  exact ⟨rfl, rfl⟩
theorem mdl_old {a b : Int} (ha : 0 ≤ a ∧ a < n) (hb : 0 ≤ b ∧ b < n) (hab : a ≠ b) (he : edO a b ∈ g) : mdl n g 1 a b = ((n : Int), g, 2) ∧ mdl n g 2 a b = ((n : Int), del g (edO a b), 1) := by
  have hn : 2 ≤ n ∧ n ≤ 12 := by have := hg.1; have := hg.2.1; omega
  rw [mdl_head hg (.inl rfl) ha hb hab, mdl_head hg (.inr rfl) ha hb hab]
  unfold takR addR
  rw [gr_of hg, edO_ok hn ha hb hab, decide_eq_true he]
  exact ⟨rfl, rfl⟩
omit hg in
theorem mdl_move {a b : Int} (ha : 0 ≤ a ∧ a < n) : mdl n g 4 a b = ((n : Int), g, if inB b 1 3 = true then 1 else 3) := by
  unfold mdl
  rw [inB_t.2 (by omega), decide_eq_true ha.1, decide_eq_true ha.2]
  rfl
theorem mdl_tog {a b : Int} (ha : 0 ≤ a ∧ a < n) (hb : 0 ≤ b ∧ b < n) : mdl n g 3 a b = ((n : Int), g, if (labs n g).getD a.toNat 0 = (labs n g).getD b.toNat 0 then 1 else 2) := by
  unfold mdl
  rw [inB_t.2 (by omega), decide_eq_true ha.1, decide_eq_true ha.2, decide_eq_true hb.1, decide_eq_true hb.2]
  simp only [Bool.and_self, if_true, decide_true, Bool.not_true, Bool.and_false, Bool.not_false]
  rw [if_neg (by omega)]
  unfold tgB
  rw [gr_of hg, inB_t.2 (by omega), inB_t.2 (by omega), Int.toNat_natCast]
  simp only [Bool.true_and, decide_eq_true_eq]
omit hg in
theorem mdl_bad {k : Nat} (hk : k ≤ 3) {op a b : Int} (h : rtB n k op a b = false) : (mdl n g op a b).2.1 = g ∧ ((mdl n g op a b).2.2 = 3 ∨ op = 4 ∧ (mdl n g op a b).2.2 = 1) := by
  unfold rtB at h
  unfold mdl
  by_cases h1 : inB op 1 4 = true
  · rw [h1] at h ⊢
    by_cases h2 : 0 ≤ a ∧ a < n
    · rw [inB_t.2 (show 0 ≤ a ∧ a ≤ (n : Int) - 1 from by omega)] at h
      rw [decide_eq_true h2.1, decide_eq_true h2.2]
      simp only [Bool.and_self, if_true, Bool.true_and] at h ⊢
      by_cases h4 : op = 4
      · rw [if_pos h4]
        refine ⟨rfl, ?_⟩
        by_cases h5 : inB b 1 3 = true
        · exact .inr ⟨h4, by rw [if_pos h5]⟩
        · exact .inl (by rw [if_neg h5])
      · rw [decide_eq_false h4, cond_false] at h
        rw [if_neg h4, if_neg]
        · exact ⟨rfl, .inl rfl⟩
        · intro hc
          simp only [Bool.and_eq_true, decide_eq_true_eq, Bool.not_eq_true', Bool.and_eq_false_iff, decide_eq_false_iff_not, Bool.not_eq_false'] at hc
          rw [inB_t.2 (show 0 ≤ b ∧ b ≤ (n : Int) - 1 from by omega)] at h
          simp only [Bool.true_and, Bool.not_eq_false', Bool.and_eq_true, decide_eq_true_eq, Bool.or_eq_true] at h
          rcases hc.2 with h6 | h6
          · exact h6 h.1
          · omega
    · rw [if_neg]
      · exact ⟨rfl, .inl rfl⟩
      · simp only [Bool.and_eq_true, decide_eq_true_eq]
        exact fun hc => h2 hc.2
  · rw [if_neg]
    · exact ⟨rfl, .inl rfl⟩
    · simp only [Bool.and_eq_true]
      exact fun hc => h1 hc.1
end
/-- What is said of a question, and the graph then. -/
def Rpl (n : Nat) (g : List Ed) (op a b v : Int) (g' : List Ed) : Prop :=
  g' = (if v = 3 then g else (mdl n g op a b).2.1) ∧ (1 ≤ v ∧ v ≤ 3) ∧ (v = (mdl n g op a b).2.2 ∨ op = 4 ∧ (v = 2 ∨ ((mdl n g op a b).2.2 = 1 ∧ v = 3)))
theorem edO_two (a b : Int) : (edO a b = (a, b)) ∨ (edO a b = (b, a)) := by
  unfold edO
  split
  · exact .inl rfl
  · exact .inr rfl
section
variable {n : Nat} {own : List Int} {cuts : List Ed} {lab : List (List Int)} {nums : List Int} {said : List Sd} {ss : List Shd} {g : List Ed} {c : Nat}
theorem Ply.split (h : Ply n own cuts lab nums said ss g c) {j0 : Nat} {L : List Led} {y : An} (hs : ss[j0]? = some (L, y)) (x : Ed) : x ∈ g ↔ x ∈ cuts ∨ x ∈ gE L ∨ ∃ (j : Nat) (M : List Led) (w : An), j ≠ j0 ∧ ss[j]? = some (M, w) ∧ x ∈ gE M := by
  rw [h.gin]
  constructor
  · rintro (h1 | ⟨j, M, w, hj, he⟩)
    · exact .inl h1
    · by_cases hjj : j = j0
      · subst hjj
        rw [hs] at hj
        cases hj
        exact .inr (.inl he)
      · exact .inr (.inr ⟨j, M, w, hjj, hj, he⟩)
  · rintro (h1 | h1 | ⟨j, M, w, _, hj, he⟩)
    · exact .inl h1
    · exact .inr ⟨j0, L, y, hs, h1⟩
    · exact .inr ⟨j, M, w, hj, he⟩
theorem Ply.whole (h : Ply n own cuts lab nums said ss g c) : (wlR n lab cuts).1 = labs n g := by
  obtain ⟨k1, k2, k3, k4⟩ := h.k
  have hn := h.n2
  have hlab : ∀ l, l ∈ lab → ∃ (j : Nat) (L : List Led) (y : An), ss[j]? = some (L, y) ∧ l = labs n (gE L) ∧ ShR ((j : Int) + 1) n L y := by
    intro l hl
    obtain ⟨j, hj, rfl⟩ := List.mem_iff_getElem.1 hl
    have hjs : j < ss.length := by omega
    obtain ⟨s1, _, _, s4, _⟩ := h.sh j _ _ (List.getElem?_eq_getElem hjs)
    refine ⟨j, _, _, List.getElem?_eq_getElem hjs, ?_, s1⟩
    rw [← s4, List.getD_eq_getElem?_getD, List.getElem?_eq_getElem hj]
    rfl
  have hall : lab.all (pL n) = true := by
    rw [List.all_eq_true]
    intro l hl
    obtain ⟨j, L, y, h1, h2, h3⟩ := hlab l hl
    rw [h2]
    exact pL_labs (gE_in h3)
  have hcall : cuts.all (edB n) = true := by
    rw [List.all_eq_true]
    exact h.cgr.2.2.2
  unfold wlR
  rw [if_pos]
  · show labs (n : Int).toNat _ = _
    rw [Int.toNat_natCast]
    have hgin : EIn n g := fun e he => by
      have := edB_in (h.gr.2.2.2 e he)
      exact ⟨this.1, this.2.1, this.2.2.1, this.2.2.2.1⟩
    have hEV : EIn n (lab.flatMap wlV ++ cuts) := fun e he => by
      rcases List.mem_append.1 he with he | he
      · obtain ⟨l, hl, he⟩ := List.mem_flatMap.1 he
        obtain ⟨j, L, y, h1, h2, h3⟩ := hlab l hl
        subst h2
        obtain ⟨w, g1, g2⟩ := wlV_at he
        have t1 := (labs_ok (gE_in h3)).lt g1
        have t2 := (List.getElem?_eq_some_iff.1 g1).1
        rw [labs_len] at t2
        omega
      · exact hgin e ((h.gin e).2 (.inl he))
    refine (labs_ok hEV).uniq (labs_ok hgin) fun u v => ?_
    constructor
    · refine fun hc => hc.sub fun e he => ?_
      rcases List.mem_append.1 he with he | he
      · obtain ⟨l, hl, he⟩ := List.mem_flatMap.1 he
        obtain ⟨j, L, y, h1, h2, h3⟩ := hlab l hl
        subst h2
        obtain ⟨w, g1, g2⟩ := wlV_at he
        have := ((labs_ok (gE_in h3)).2 w _ g1).1
        rw [g2]
        exact (this.mono fun x hx => (h.gin x).2 (.inr ⟨j, L, y, h1, hx⟩)).symm
      · exact .of ((h.gin e).2 (.inl he))
    · refine fun hc => hc.sub fun e he => ?_
      rcases (h.gin e).1 he with he | ⟨j, L, y, hj, he⟩
      · exact .of (List.mem_append_right _ he)
      · obtain ⟨s1, _, _, s4, _⟩ := h.sh j L y hj
        have hjl : j < lab.length := by
          have := (List.getElem?_eq_some_iff.1 hj).1
          omega
        have hl : labs n (gE L) ∈ lab := by
          rw [← s4, List.getD_eq_getElem?_getD, List.getElem?_eq_getElem hjl]
          exact List.getElem_mem hjl
        have hin : ∀ x, x ∈ wlV (labs n (gE L)) → x ∈ lab.flatMap wlV ++ cuts := fun x hx => List.mem_append_left _ (List.mem_flatMap.2 ⟨_, hl, hx⟩)
        have hL := labs_ok (gE_in s1)
        obtain ⟨a1, a2, a3, a4⟩ := gE_in s1 e he
        have i1 : e.1.toNat < (labs n (gE L)).length := by rw [labs_len]; omega
        have i2 : e.2.toNat < (labs n (gE L)).length := by rw [labs_len]; omega
        have g1 := getD_at i1
        have g2 := getD_at i2
        have hxy := (hL.iff g1 g2).2 (by rw [Int.toNat_of_nonneg a1, Int.toNat_of_nonneg a3]; exact Con.of he)
        have m1 := hin _ (wlV_of g1)
        have m2 := hin _ (wlV_of g2)
        rw [Int.toNat_of_nonneg a1] at m1
        rw [Int.toNat_of_nonneg a3, ← hxy] at m2
        exact (Con.of m1).symm.trans (Con.of m2)
  · unfold wlB
    rw [inB_t.2 (by omega), decide_eq_true (by omega), hall, hcall]
    rfl
/-- A question is taken. -/
theorem take_step (h : Ply n own cuts lab nums said ss g c) {i op a b : Int} (hi : inB i 1 100000 = true) (hs : sA said i < 0) :
    ∃ (cuts' : List Ed) (x5 x6 x7 x8 x9 x10 x11 : Int) (x12 : List Ed) (x13 : Int) (said' : List Sd) (told : Int) (g' : List Ed), tkM n own cuts lab nums said i op a b = ((n : Int), own, cuts', lab, nums, x5, x6, x7, x8, x9, x10, x11, x12, x13, said', told) ∧ Pnd n own cuts' lab nums said' ss g' (c + 1) x5 x6 x7 x8 x9 x10 x11 x12 x13 ∧
      ((told = 1 ∧ x9 = 0 ∧ ∃ v, said' = said ++ [(i, i, op, a, b, v)] ∧ Rpl n g op a b v g') ∨ (told = 2 ∧ x9 ≠ 0 ∧ said' = said ∧ g' = g ∧ x5 = i ∧ x6 = op ∧ x7 = a ∧ x8 = b)) := by
  obtain ⟨k1, k2, k3, k4⟩ := h.k
  have hn := h.n2
  have hsd : ∀ v : Int, 1 ≤ v ∧ v ≤ 3 → oP4 (said ++ [(i, i, op, a, b, v)]) ∧ (said ++ [(i, i, op, a, b, v)]).length ≤ c + 1 := fun v hv => ⟨oP4_app h.sdo.1 hs hv, by
    have := h.sdo.2
    simp only [List.length_append, List.length_cons, List.length_nil]
    omega⟩
  have hmore := h.onw (said' := said) ⟨h.sdo.1, by have := h.sdo.2; omega⟩
  unfold tkM
  by_cases hr : rtB n lab.length op a b = false
  · rw [if_pos hr]
    obtain ⟨m1, m2⟩ := mdl_bad (g := g) (show lab.length ≤ 3 by omega) hr
    refine ⟨_, _, _, _, _, _, _, _, _, _, _, _, g, rfl, .idle (h.onw (hsd 3 (by omega))), .inl ⟨rfl, rfl, 3, rfl, by rw [if_pos rfl], by omega, ?_⟩⟩
    rcases m2 with m2 | m2
    · exact .inl m2.symm
    · exact .inr ⟨m2.1, .inr ⟨m2.2, rfl⟩⟩
  · rw [if_neg hr]
    rw [Bool.not_eq_false] at hr
    unfold rtB at hr
    simp only [Bool.and_eq_true, inB_t] at hr
    obtain ⟨r1, r2, r3⟩ := hr
    have ha : 0 ≤ a ∧ a < n := by omega
    by_cases h3 : op = 3
    · rw [if_pos h3, h.whole]
      subst h3
      rw [decide_eq_false (by omega), cond_false] at r3
      simp only [Bool.and_eq_true, inB_t] at r3
      have hb : 0 ≤ b ∧ b < n := by omega
      have hm := mdl_tog h.gr ha hb
      by_cases hl : (labs n g).getD a.toNat 0 = (labs n g).getD b.toNat 0
      · rw [if_pos hl] at hm ⊢
        exact ⟨_, _, _, _, _, _, _, _, _, _, _, _, g, rfl, .idle (h.onw (hsd 1 (by omega))), .inl ⟨rfl, rfl, 1, rfl, by rw [if_neg (by omega), hm], by omega, .inl (by rw [hm])⟩⟩
      · rw [if_neg hl] at hm ⊢
        exact ⟨_, _, _, _, _, _, _, _, _, _, _, _, g, rfl, .idle (h.onw (hsd 2 (by omega))), .inl ⟨rfl, rfl, 2, rfl, by rw [if_neg (by omega), hm], by omega, .inl (by rw [hm])⟩⟩
    · rw [if_neg h3]
      by_cases h4 : op = 4
      · rw [if_pos h4]
        subst h4
        rw [decide_eq_true rfl, cond_true, inB_t] at r3
        have hm := mdl_move (g := g) (b := b) ha
        by_cases ho : own.getD a.toNat 0 = b
        · rw [if_pos ho]
          exact ⟨_, _, _, _, _, _, _, _, _, _, _, _, g, rfl, .idle (h.onw (hsd 2 (by omega))), .inl ⟨rfl, rfl, 2, rfl, by rw [if_neg (by omega), hm], by omega, .inr ⟨rfl, .inl rfl⟩⟩⟩
        · rw [if_neg ho]
          have := h.owr.2 a ha
          exact ⟨_, _, _, _, _, _, _, _, _, _, _, _, g, rfl, .rel hmore hi hs ha (by omega) ho, .inr ⟨rfl, by omega, rfl, rfl, rfl, rfl, rfl, rfl⟩⟩
      · rw [if_neg h4]
        rw [decide_eq_false h4, cond_false] at r3
        simp only [Bool.and_eq_true, inB_t, Bool.not_eq_true', Bool.and_eq_false_iff, decide_eq_false_iff_not, Bool.or_eq_false_iff] at r3
        have hb : 0 ≤ b ∧ b < n := by omega
        have hop : op = 1 ∨ op = 2 := by omega
        have hab : a ≠ b := by
          rcases r3.2 with h | h
          · exact h
          · omega
        have hed := edO_ok hn ha hb hab
        unfold tkE
        have hoe : (own.getD (edO a b).1.toNat 0 = own.getD (edO a b).2.toNat 0 ↔ own.getD a.toNat 0 = own.getD b.toNat 0) ∧ (own.getD a.toNat 0 = own.getD b.toNat 0 → own.getD (edO a b).1.toNat 0 = own.getD a.toNat 0) := by
          rcases edO_two a b with h | h
          · rw [h]; exact ⟨Iff.rfl, fun _ => rfl⟩
          · rw [h]; exact ⟨⟨fun h => h.symm, fun h => h.symm⟩, fun h => h.symm⟩
        by_cases hw : own.getD (edO a b).1.toNat 0 = own.getD (edO a b).2.toNat 0
        · rw [if_pos hw]
          have hw' := hoe.1.1 hw
          rw [hoe.2 hw']
          have := h.owr.2 a ha
          have hop2 : (if op = 2 then (2 : Int) else 1) = op := by
            rcases hop with h | h <;> subst h <;> rfl
          rw [hop2]
          exact ⟨_, _, _, _, _, _, _, _, _, _, _, _, g, rfl, .chg hmore hi hs hop ha hb hab hw', .inr ⟨rfl, by omega, rfl, rfl, rfl, rfl, rfl, rfl⟩⟩
        · rw [if_neg hw]
          have hcg := h.two hw
          by_cases hin : edO a b ∈ cuts
          · have hg' := hcg.2 hin
            obtain ⟨m1, m2⟩ := mdl_old h.gr ha hb hab hg'
            rcases hop with rfl | rfl
            · rw [decide_eq_true hin, if_pos (by decide)]
              exact ⟨_, _, _, _, _, _, _, _, _, _, _, _, g, rfl, .idle (h.onw (hsd 2 (by omega))), .inl ⟨rfl, rfl, 2, rfl, by rw [if_neg (by omega), m1], by omega, .inl (by rw [m1])⟩⟩
            · rw [decide_eq_true hin, if_neg (by decide), if_pos hin]
              refine ⟨_, _, _, _, _, _, _, _, _, _, _, _, del g (edO a b), rfl, .idle ⟨h.n2, h.k, h.owr, h.cgr.del, fun e he => h.cut e (del_mem.1 he).1, fun j L y hj => ?_, h.gr.del, fun e => ?_, hsd 1 (by omega)⟩, .inl ⟨rfl, rfl, 1, rfl, by rw [if_neg (by omega), m2], by omega, .inl (by rw [m2])⟩⟩
              · obtain ⟨s1, s2, s3, s4, s5⟩ := h.sh j L y hj
                exact ⟨s1, s2, by omega, s4, s5⟩
              · rw [del_mem, del_mem, h.gin]
                constructor
                · rintro ⟨h1 | h1, h2⟩
                  · exact .inl ⟨h1, h2⟩
                  · exact .inr h1
                · rintro (h1 | ⟨j, L, y, hj, he⟩)
                  · exact ⟨.inl h1.1, h1.2⟩
                  · refine ⟨.inr ⟨j, L, y, hj, he⟩, ?_⟩
                    rintro rfl
                    have := (h.sh j L y hj).2.2.2.2 _ he
                    exact hw (this.1.trans this.2.symm)
          · have hg' : edO a b ∉ g := fun h' => hin (hcg.1 h')
            obtain ⟨m1, m2⟩ := mdl_new h.gr ha hb hab hg'
            rcases hop with rfl | rfl
            · rw [decide_eq_false hin, if_neg (by decide), if_neg hin]
              refine ⟨_, _, _, _, _, _, _, _, _, _, _, _, ins g (edO a b), rfl, .idle ⟨h.n2, h.k, h.owr, h.cgr.ins hed, fun e he => ?_, fun j L y hj => ?_, h.gr.ins hed, fun e => ?_, hsd 1 (by omega)⟩, .inl ⟨rfl, rfl, 1, rfl, by rw [if_neg (by omega), m1], by omega, .inl (by rw [m1])⟩⟩
              · rcases ins_mem.1 he with rfl | he
                · exact hw
                · exact h.cut e he
              · obtain ⟨s1, s2, s3, s4, s5⟩ := h.sh j L y hj
                exact ⟨s1, s2, by omega, s4, s5⟩
              · rw [ins_mem, ins_mem, h.gin]
                constructor
                · rintro (h1 | h1 | h1)
                  · exact .inl (.inl h1)
                  · exact .inl (.inr h1)
                  · exact .inr h1
                · rintro ((h1 | h1) | h1)
                  · exact .inl h1
                  · exact .inr (.inl h1)
                  · exact .inr (.inr h1)
            · rw [decide_eq_false hin, if_pos (by decide)]
              exact ⟨_, _, _, _, _, _, _, _, _, _, _, _, g, rfl, .idle (h.onw (hsd 2 (by omega))), .inl ⟨rfl, rfl, 2, rfl, by rw [if_neg (by omega), m2], by omega, .inl (by rw [m2])⟩⟩
end
theorem Dne.labs {n : Nat} {L L' : List Led} {o : Or'} {z : An} (h : Dne n L L' o z) {x0 : Int} (hR : ShR x0 n L' z) : z.2.2.2 = Go.Fw.labs n (gE L') := h.lab.trans hR.web.labs
/-- What a said answer makes of a graph. -/
def mst (n : Int) (g : List Ed) (s : Sd) : List Ed := if s.2.2.2.2.2 = 3 then g else (mdl n g s.2.2.1 s.2.2.2.1 s.2.2.2.2.1).2.1
def shP (h : Hd) : Int := h.2.2.2.2.2.2.2.2.2.1
def sdO (h : Hd) : List Sd := h.2.2.2.2.2.2.2.2.2.2.2.2.2.2
def qO (h : Hd) : Int × Int × Int × Int := (h.2.2.2.2.2.1, h.2.2.2.2.2.2.1, h.2.2.2.2.2.2.2.1, h.2.2.2.2.2.2.2.2.1)
abbrev flI (h : Hd) (t : Int) : HdI := (h.1, h.2.1, h.2.2.1, h.2.2.2.1, h.2.2.2.2.1, h.2.2.2.2.2.1, h.2.2.2.2.2.2.1, h.2.2.2.2.2.2.2.1, h.2.2.2.2.2.2.2.2.1, h.2.2.2.2.2.2.2.2.2.1, h.2.2.2.2.2.2.2.2.2.2.1, h.2.2.2.2.2.2.2.2.2.2.2.1, h.2.2.2.2.2.2.2.2.2.2.2.2.1, h.2.2.2.2.2.2.2.2.2.2.2.2.2.1, h.2.2.2.2.2.2.2.2.2.2.2.2.2.2, t)
inductive HP (n : Nat) : Hd → List Shd → List Ed → Nat → Prop
  | mk {own : List Int} {cuts : List Ed} {lab : List (List Int)} {nums : List Int} {said : List Sd} {ss : List Shd} {g : List Ed} {c : Nat} {x5 x6 x7 x8 x9 x10 x11 : Int} {x12 : List Ed} {x13 : Int}
      (hp : Pnd n own cuts lab nums said ss g c x5 x6 x7 x8 x9 x10 x11 x12 x13) (hf : said.foldl (mst n) [] = g) (hc : c ≤ 80) : HP n ((n : Int), own, cuts, lab, nums, x5, x6, x7, x8, x9, x10, x11, x12, x13, said) ss g c
section
variable {n : Nat} {own : List Int} {cuts : List Ed} {lab : List (List Int)} {nums : List Int} {said : List Sd} {ss : List Shd} {g : List Ed} {c : Nat} {x5 x6 x7 x8 x9 x10 x11 : Int} {x12 : List Ed} {x13 : Int}
theorem Ply.up (h : Ply n own cuts lab nums said ss g c) : Ply n own cuts lab nums said ss g (c + 1) := h.onw ⟨h.sdo.1, by have := h.sdo.2; omega⟩
theorem Pnd.up (h : Pnd n own cuts lab nums said ss g c x5 x6 x7 x8 x9 x10 x11 x12 x13) : Pnd n own cuts lab nums said ss g (c + 1) x5 x6 x7 x8 x9 x10 x11 x12 x13 := by
  cases h with
  | idle h => exact .idle h.up
  | chg h hi hs ho ha hb hab hw => exact .chg h.up hi hs ho ha hb hab hw
  | rel h hi hs ha hb hw => exact .rel h.up hi hs ha hb hw
  | acc h hi hs ha hb hes hin hgr hg => exact .acc h.up hi hs ha hb hes hin hgr hg
theorem Pnd.x12l (h : Pnd n own cuts lab nums said ss g c x5 x6 x7 x8 x9 x10 x11 x12 x13) : x12.length ≤ 66 := by
  cases h with
  | idle h => simp
  | chg h hi hs ho ha hb hab hw => simp
  | rel h hi hs ha hb hw => simp
  | acc h hi hs ha hb hes hin hgr hg => exact gr_len hes.1
theorem Ply.sz (h : Ply n own cuts lab nums said ss g c) (hc : c ≤ 80) (hx : x12.length ≤ 66) : HdS ((n : Int), own, cuts, lab, nums, x5, x6, x7, x8, x9, x10, x11, x12, x13, said) := by
  obtain ⟨k1, k2, k3, k4⟩ := h.k
  have hn := h.n2
  have hcl := gr_len h.cgr
  have hol := h.owr.1
  have hsl := h.sdo.2
  refine ⟨by show own.length ≤ 12; omega, by show cuts.length ≤ 132; omega, ⟨by show lab.length ≤ 3; omega, fun y hy => ?_⟩, by show nums.length ≤ 3; omega, by show x12.length ≤ 132; omega, by show said.length ≤ 81; omega⟩
  obtain ⟨j, hj, rfl⟩ := List.mem_iff_getElem.1 (show y ∈ lab from hy)
  have hjs : j < ss.length := by omega
  obtain ⟨_, _, _, s4, _⟩ := h.sh j _ _ (List.getElem?_eq_getElem hjs)
  rw [List.getD_eq_getElem?_getD, List.getElem?_eq_getElem hj] at s4
  have s4 : lab[j] = _ := s4
  rw [s4, labs_len]
  omega
theorem HP.sz {h : Hd} (hp : HP n h ss g c) : HdS h := by
  cases hp with
  | mk hp hf hc =>
    obtain ⟨g', hP⟩ := hp.ply
    exact hP.sz hc hp.x12l
theorem HP.up {h : Hd} (hp : HP n h ss g c) (hc : c < 80) : HP n h ss g (c + 1) := by
  cases hp with
  | mk hp hf _ => exact .mk hp.up hf (by omega)
theorem HP.len {h : Hd} (hp : HP n h ss g c) : h.1 = n ∧ (2 ≤ n ∧ n ≤ 12) ∧ (1 ≤ ss.length ∧ ss.length ≤ 3) ∧ h.2.2.2.1.length = ss.length ∧ GrOk n g ∧ (sdO h).foldl (mst n) [] = g ∧ (sdO h).length ≤ c ∧ c ≤ 80 := by
  cases hp with
  | mk hp hf hc =>
    obtain ⟨g', hP⟩ := hp.ply
    have hk := hP.k
    refine ⟨rfl, hP.n2, ⟨hk.1, hk.2.1⟩, hk.2.2.1, ?_, hf, hP.sdo.2, hc⟩
    cases hp with
    | idle h => exact h.gr
    | chg h => exact h.gr
    | rel h => exact h.gr
    | acc h hi hs ha hb hes hin hgr hg => exact hgr
theorem fold_rpl {op a b v i : Int} {g' : List Ed} (hf : said.foldl (mst n) [] = g) (h : Rpl n g op a b v g') : (said ++ [(i, i, op, a, b, v)]).foldl (mst n) [] = g' := by
  rw [List.foldl_append, hf]
  exact h.1.symm
/-- A question is taken, or is not. -/
theorem HP.take {h : Hd} (hp : HP n h ss g c) (hc : c < 80) (i op a b : Int) : ∃ (h' : Hd) (told : Int) (g' : List Ed), tkU h i op a b = flI h' told ∧ HP n h' ss g' (c + 1) ∧
    ((told = 0 ∧ h' = h ∧ g' = g) ∨ sA (sdO h) i < 0 ∧ shP h = 0 ∧ ((told = 1 ∧ shP h' = 0 ∧ ∃ v, sdO h' = sdO h ++ [(i, i, op, a, b, v)] ∧ Rpl n g op a b v g') ∨ (told = 2 ∧ shP h' ≠ 0 ∧ sdO h' = sdO h ∧ g' = g ∧ qO h' = (i, op, a, b)))) := by
  have hup := hp.up hc
  cases hp with
  | @mk own cuts lab nums said _ _ _ x5 x6 x7 x8 x9 x10 x11 x12 x13 hp hf hc' =>
    show ∃ (h' : Hd) (told : Int) (g' : List Ed), tkR (n : Int) own cuts lab nums x5 x6 x7 x8 x9 x10 x11 x12 x13 said i op a b = _ ∧ _
    unfold tkR
    by_cases hok : tkOk (n : Int) own cuts lab nums x5 x6 x7 x8 x9 x10 x11 x12 x13 said i = true
    · rw [if_pos hok]
      obtain ⟨_, z5, _, _, _, z9, _⟩ := tk_free hok
      unfold tkOk at hok
      simp only [Bool.and_eq_true, decide_eq_true_eq, Bool.not_eq_true', decide_eq_false_iff_not] at hok
      obtain ⟨_, hi, hsa, _, _⟩ := hok
      have hP : Ply n own cuts lab nums said ss g c := by
        cases hp with
        | idle h => exact h
        | chg h hi' => rw [z5] at hi'; exact absurd hi' (by decide)
        | rel h hi' => rw [z5] at hi'; exact absurd hi' (by decide)
        | acc h hi' => rw [z5] at hi'; exact absurd hi' (by decide)
      obtain ⟨cuts', t5, t6, t7, t8, t9, t10, t11, t12, t13, said', told, g', e1, e2, e3⟩ := take_step (op := op) (a := a) (b := b) hP hi (by omega)
      rw [e1]
      refine ⟨((n : Int), own, cuts', lab, nums, t5, t6, t7, t8, t9, t10, t11, t12, t13, said'), told, g', rfl, .mk e2 ?_ (by omega), .inr ⟨by show sA said i < 0; omega, z9, ?_⟩⟩
      · rcases e3 with ⟨_, _, v, rfl, hr⟩ | ⟨_, _, rfl, rfl, _⟩
        · exact fold_rpl hf hr
        · exact hf
      · rcases e3 with ⟨r1, r2, v, r3, hr⟩ | ⟨r1, r2, r3, r4, r5, r6, r7, r8⟩
        · exact .inl ⟨r1, r2, v, r3, hr⟩
        · exact .inr ⟨r1, r2, r3, r4, by show (t5, t6, t7, t8) = _; rw [r5, r6, r7, r8]⟩
    · rw [if_neg hok]
      exact ⟨_, 0, g, rfl, hup, .inl ⟨rfl, rfl, rfl⟩⟩
end
theorem h_sl12Ask (c : Cur) (hc : curOk c) (n k i : Int) (hn : n ≤ 1000000) (hk : k ≤ 1000000) : ∃ op a b c', g_sl12Ask (c, n, k, i) = some ((i, op, a, b), c') ∧ curOk c' := by
  show ∃ op a b c', f_sl12Ask BIG _ = _ ∧ _
  rw [e_sl12Ask]
  obtain ⟨r0, c0, k0, o0⟩ := h_sl01PickInt c [1, 1, 1, 1, 2, 2, 3, 3, 4] hc (by simp) (by simp)
  obtain ⟨r1, c1, k1, o1, _⟩ := h_sl01Below c0 n o0 hn
  obtain ⟨r2, c2, k2, o2, _⟩ := h_sl01Below c1 n o1 hn
  rw [k0, Option.bind_some]
  simp only
  rw [k1, Option.bind_some]
  simp only
  rw [k2, Option.bind_some]
  simp only
  have hx : ∃ c3 op a b, (bif decide (r0 = (4 : Int)) then Option.bind (g_sl01Below (c2, k)) fun r3 => some (r3.2, (i, r0, r1, IntKind.wrap .i64 ((1 : Int) + r3.1))) else some (c2, (i, r0, r1, r2)) : Option (Cur × (Int × Int × Int × Int))) = some (c3, (i, op, a, b)) ∧ curOk c3 := by
    by_cases h : r0 = 4
    · obtain ⟨r3, c3, k3, o3, _⟩ := h_sl01Below c2 k o2 hk
      rw [decide_eq_true h, cond_true, k3, Option.bind_some]
      exact ⟨_, _, _, _, rfl, o3⟩
    · rw [decide_eq_false h, cond_false]
      exact ⟨_, _, _, _, rfl, o2⟩
  obtain ⟨c3, op, a', b', hx, o3⟩ := hx
  rw [hx, Option.bind_some]
  simp only
  obtain ⟨r5, c5, k5, o5, _⟩ := h_sl01Below c3 30 o3 (by omega)
  rw [k5, Option.bind_some]
  simp only
  by_cases h0 : r5 = 0
  · obtain ⟨r6, c6, k6, o6⟩ := h_sl01PickInt c5 [-1, n, 11, 12] o5 (by simp) (by simp)
    rw [decide_eq_true h0, cond_true, k6, Option.bind_some, Option.bind_some]
    exact ⟨_, _, _, _, rfl, o6⟩
  rw [decide_eq_false h0, cond_false]
  by_cases h1 : r5 = 1
  · obtain ⟨r6, c6, k6, o6⟩ := h_sl01PickInt c5 [-1, 0, n, 12] o5 (by simp) (by simp)
    rw [decide_eq_true h1, cond_true, k6, Option.bind_some, Option.bind_some]
    exact ⟨_, _, _, _, rfl, o6⟩
  rw [decide_eq_false h1, cond_false]
  by_cases h2 : r5 = 2
  · obtain ⟨r6, c6, k6, o6⟩ := h_sl01PickInt c5 [0, 5] o5 (by simp) (by simp)
    rw [decide_eq_true h2, cond_true, k6, Option.bind_some, Option.bind_some]
    exact ⟨_, _, _, _, rfl, o6⟩
  · rw [decide_eq_false h2, cond_false, Option.bind_some]
    exact ⟨_, _, _, _, rfl, o5⟩
abbrev Shr := Int × Int × List Led × An
/-- The shards, as they stand in a list. -/
def SLR (n : Nat) (S : List Shr) (ss : List Shd) : Prop := S.length = ss.length ∧ ∀ (j : Nat) (L : List Led) (y : An), ss[j]? = some (L, y) → S[j]? = some ((j : Int) + 1, (n : Int), L, y)
theorem SLR.at {n : Nat} {S : List Shr} {ss : List Shd} (h : SLR n S ss) {s : Int} (h1 : 1 ≤ s) {L : List Led} {y : An} (hs : ss[(s - 1).toNat]? = some (L, y)) : (s - 1).toNat < S.length ∧ S[(s - 1).toNat]? = some (s, (n : Int), L, y) := by
  have := (List.getElem?_eq_some_iff.1 hs).1
  have h2 := h.2 _ _ _ hs
  rw [show (((s - 1).toNat : Nat) : Int) + 1 = s from by omega] at h2
  exact ⟨by have := h.1; omega, h2⟩
theorem SLR.set {n : Nat} {S : List Shr} {ss : List Shd} (h : SLR n S ss) {s : Int} (h1 : 1 ≤ s) (L : List Led) (y : An) : SLR n (S.set (s - 1).toNat (s, (n : Int), L, y)) (ss.set (s - 1).toNat (L, y)) := by
  refine ⟨by rw [List.length_set, List.length_set]; exact h.1, fun j M w hj => ?_⟩
  rw [List.getElem?_set] at hj ⊢
  by_cases hjs : (s - 1).toNat = j
  · rw [if_pos hjs] at hj ⊢
    by_cases hl : (s - 1).toNat < ss.length
    · rw [if_pos hl] at hj
      cases hj
      rw [if_pos (by have := h.1; omega), show (j : Int) + 1 = s from by omega]
    · rw [if_neg hl] at hj
      cases hj
  · rw [if_neg hjs] at hj ⊢
    exact h.2 j M w hj
theorem grB_t {n : Int} {es : List Ed} (h : grB n es = true) : (1 ≤ n ∧ n ≤ 12) ∧ eOk n es = true := by
  unfold grB at h
  rw [Bool.and_eq_true, inB_t] at h
  exact h
theorem grB_of {n : Int} {es : List Ed} (hs : Srt es) (he : ∀ e, e ∈ es → edB n e = true) (h2 : 2 ≤ n) (h12 : n ≤ 12) : grB n es = true := by
  have hg : GrOk n es := ⟨h2, h12, hs, he⟩
  obtain ⟨m, rfl⟩ : ∃ m : Nat, n = (m : Int) := ⟨n.toNat, by omega⟩
  unfold grB
  rw [Bool.and_eq_true, inB_t]
  exact ⟨by omega, eOk_of hg (gr_len hg)⟩
theorem edB_two {n : Int} {e : Ed} (h : edB n e = true) : 2 ≤ n ∧ n ≤ 12 := by
  unfold edB at h
  simp only [Bool.and_eq_true, inB_t, decide_eq_true_eq] at h
  omega
theorem mdl_yes (n : Int) (es : List Ed) (o a b : Int) : (mdl n es o a b).1 = n ∧ ((mdl n es o a b).2.1 = es ∨ ((mdl n es o a b).2.2 = 1 ∧ o ≠ 3 ∧ o ≠ 4 ∧ grB n (mdl n es o a b).2.1 = true ∧ ((mdl n es o a b).2.1.length = es.length + 1 ∨ (mdl n es o a b).2.1.length + 1 = es.length)))
    ∧ ((mdl n es o a b).2.2 = 1 → o ≠ 3 → o ≠ 4 → grB n (mdl n es o a b).2.1 = true ∧ ((mdl n es o a b).2.1.length = es.length + 1 ∨ (mdl n es o a b).2.1.length + 1 = es.length)) := by
  unfold mdl
  split
  case isFalse => exact ⟨rfl, .inl rfl, fun h => by simp at h⟩
  case isTrue =>
  split
  case isTrue h4 => exact ⟨rfl, .inl rfl, fun _ _ h => absurd h4 h⟩
  case isFalse h4 =>
  split
  case isFalse => exact ⟨rfl, .inl rfl, fun h => by simp at h⟩
  case isTrue =>
  split
  case isTrue h3 => exact ⟨rfl, .inl rfl, fun _ h => absurd h3 h⟩
  case isFalse h3 =>
  have key : ∀ r : Int × List Ed × Bool, (r.2.2 = true → r.1 = n ∧ grB n r.2.1 = true ∧ (r.2.1.length = es.length + 1 ∨ r.2.1.length + 1 = es.length)) →
      ((if r.2.2 = true then (r.1, r.2.1, (1 : Int)) else (n, es, 2)).1 = n ∧ ((if r.2.2 = true then (r.1, r.2.1, (1 : Int)) else (n, es, 2)).2.1 = es ∨ ((if r.2.2 = true then (r.1, r.2.1, (1 : Int)) else (n, es, 2)).2.2 = 1 ∧ o ≠ 3 ∧ o ≠ 4 ∧ grB n (if r.2.2 = true then (r.1, r.2.1, (1 : Int)) else (n, es, 2)).2.1 = true ∧ ((if r.2.2 = true then (r.1, r.2.1, (1 : Int)) else (n, es, 2)).2.1.length = es.length + 1 ∨ (if r.2.2 = true then (r.1, r.2.1, (1 : Int)) else (n, es, 2)).2.1.length + 1 = es.length)))
        ∧ ((if r.2.2 = true then (r.1, r.2.1, (1 : Int)) else (n, es, 2)).2.2 = 1 → o ≠ 3 → o ≠ 4 → grB n (if r.2.2 = true then (r.1, r.2.1, (1 : Int)) else (n, es, 2)).2.1 = true ∧ ((if r.2.2 = true then (r.1, r.2.1, (1 : Int)) else (n, es, 2)).2.1.length = es.length + 1 ∨ (if r.2.2 = true then (r.1, r.2.1, (1 : Int)) else (n, es, 2)).2.1.length + 1 = es.length))) := by
    rintro ⟨r1, r2, r3⟩ hr
    cases r3 with
    | false => exact ⟨rfl, .inl rfl, fun h => by simp at h⟩
    | true =>
      obtain ⟨g1, g2, g3⟩ := hr rfl
      exact ⟨g1, .inr ⟨rfl, h3, h4, g2, g3⟩, fun _ _ _ => ⟨g2, g3⟩⟩
  refine key _ fun hr => ?_
  split at hr
  case isTrue h2 =>
    rw [if_pos h2]
    unfold takR at hr ⊢
    split
    case isFalse h => rw [if_neg h] at hr; cases hr
    case isTrue h =>
    rw [Bool.and_eq_true, decide_eq_true_eq] at h
    obtain ⟨hn, he⟩ := grB_t h.1
    obtain ⟨e1, e2, e3⟩ := eOk_srt he
    have h2n := edB_two (e1 _ h.2)
    refine ⟨rfl, grB_of (del_srt e2) (fun e hx => e1 e (del_mem.1 hx).1) h2n.1 h2n.2, .inr ?_⟩
    have hx := ins_cnt (l := del es (edO a b)) (e := edO a b) fun g => (del_mem.1 g).2 rfl
    rw [ins_del e2 h.2] at hx
    exact hx.symm
  case isFalse h2 =>
    rw [if_neg h2]
    unfold addR at hr ⊢
    split
    case isFalse h => rw [if_neg h] at hr; cases hr
    case isTrue h =>
    rw [Bool.and_eq_true, Bool.and_eq_true, Bool.not_eq_true', decide_eq_false_iff_not] at h
    obtain ⟨hn, he⟩ := grB_t h.1
    obtain ⟨e1, e2, e3⟩ := eOk_srt he
    have h2n := edB_two h.2.1
    refine ⟨rfl, grB_of (ins_srt e2) (fun e hx => ?_) h2n.1 h2n.2, .inl (ins_cnt h.2.2)⟩
    rcases ins_mem.1 hx with rfl | hx
    · exact h.2.1
    · exact e1 e hx
theorem v_sl05AnyEdge (c : Cur) (hc : curOk c) (n : Int) (es : List Ed) (hl : es.length ≤ 1000) : ∃ e c', g_sl05AnyEdge (c, (n, es)) = some (e, c') ∧ curOk c' := by
  show ∃ e c', f_sl05AnyEdge BIG _ = _ ∧ _
  rw [e_sl05AnyEdge]
  have hx : ∃ c1 b, (bif decide ((0 : Int) < (es.length : Int)) then
    Option.bind (g_sl01Once (c, (2 : Int))) fun r0 =>
    some (r0.2, r0.1)
   else some (c, false) : Option (Cur × Bool)) = some (c1, b) ∧ curOk c1 ∧ (b = true → 0 < es.length) := by
    by_cases h0 : 0 < es.length
    · obtain ⟨b, c1, k1, o1⟩ := h_sl01Once c 2 hc (by omega)
      rw [decide_eq_true (by omega), cond_true, k1]
      exact ⟨c1, b, rfl, o1, fun _ => h0⟩
    · rw [decide_eq_false (by omega), cond_false]
      exact ⟨c, false, rfl, hc, fun h => by cases h⟩
  obtain ⟨c1, b, hx, o1, hb⟩ := hx
  simp only
  rw [hx, Option.bind_some]
  cases b with
  | true =>
    have h0 := hb rfl
    obtain ⟨r, c2, k2, o2, a2, b2, _⟩ := h_sl01Below c1 (es.length : Int) o1 (by omega)
    have b2 := b2 (by omega)
    simp only [cond_true]
    rw [k2, Option.bind_some]
    simp only
    rw [bnd_ok a2 b2, List.getElem?_eq_getElem (by omega), Option.bind_some]
    exact ⟨_, _, rfl, o2⟩
  | false =>
    obtain ⟨b3, c3, k3, o3⟩ := h_sl01Once c1 12 o1 (by omega)
    simp only [cond_false]
    rw [k3, Option.bind_some]
    cases b3 with
    | true =>
      obtain ⟨r6, c6, k6, o6⟩ := h_sl01PickInt c3 [(-1 : Int), (0 : Int), (5 : Int), (11 : Int), (12 : Int)] o3 (by decide) (by decide)
      obtain ⟨r7, c7, k7, o7⟩ := h_sl01PickInt c6 [(0 : Int), (5 : Int), (11 : Int), (12 : Int)] o6 (by decide) (by decide)
      simp only [cond_true]
      rw [k6, Option.bind_some]
      simp only
      rw [k7, Option.bind_some]
      exact ⟨_, _, rfl, o7⟩
    | false =>
      obtain ⟨e, c4, k4, o4, _⟩ := h_sl05Edge c3 6 o3 (by omega) (by omega)
      simp only [cond_false]
      rw [k4, Option.bind_some]
      exact ⟨_, _, rfl, o4⟩
theorem pick_mem' (c : Cur) (l : List Int) (hc : curOk c) (h0 : 0 < l.length) (hl : l.length ≤ 1000000) : ∃ b c', g_sl01PickInt (c, l) = some (b, c') ∧ curOk c' ∧ b ∈ l := by
  have e : g_sl01PickInt (c, l) = f_sl01PickInt BIG (c, l) := rfl
  obtain ⟨r, c', k, o, a, b, _⟩ := h_sl01Below c l.length hc (by omega)
  have b := b (by omega)
  rw [e, e_sl01PickInt, k, Option.bind_some, bnd_ok a b, List.getElem?_eq_getElem (by omega)]
  exact ⟨_, _, rfl, o, List.getElem_mem _⟩
theorem h_sl05AnyGraph (c : Cur) (hc : curOk c) : ∃ (n : Int) (es : List Ed) (c' : Cur), g_sl05AnyGraph c = some ((n, es), c') ∧ curOk c' ∧ n ≤ 100 ∧ es.length ≤ 400 := by
  have hm : maxLen = 9223372036854775807 := by decide
  show ∃ (n : Int) (es : List Ed) (c' : Cur), f_sl05AnyGraph BIG _ = _ ∧ _
  rw [e_sl05AnyGraph]
  obtain ⟨n, es, c0, k0, o0, hg, hl⟩ := h_sl05Graph c hc
  obtain ⟨r1, c1, k1, o1, a1, b1, _⟩ := h_sl01Below c0 20 o0 (by omega)
  have hn12 := hg.2.1
  rw [k0, Option.bind_some]
  simp only
  rw [k1, Option.bind_some]
  simp only
  by_cases h0 : r1 = 0
  · obtain ⟨r2, c2, k2, o2, m2⟩ := pick_mem' c1 [(-1 : Int), (0 : Int), (1 : Int), (2 : Int), (12 : Int), (13 : Int)] o1 (by decide) (by decide)
    simp only [List.mem_cons, List.not_mem_nil, or_false] at m2
    rw [decide_eq_true h0, cond_true, k2, Option.bind_some, Option.bind_some]
    exact ⟨_, _, _, rfl, o2, by first | omega | (simp only; omega), by first | omega | (simp only; omega)⟩
  rw [decide_eq_false h0, cond_false]
  by_cases h1 : r1 = 1
  · obtain ⟨e, c2, k2, o2⟩ := v_sl05AnyEdge c1 o1 n es (by omega)
    rw [decide_eq_true h1, cond_true, k2, Option.bind_some, decide_eq_true (by simp only [List.length_cons, List.length_nil]; omega), cond_true, Option.bind_some]
    exact ⟨_, _, _, rfl, o2, by first | omega | (simp only; omega), by simp only [List.length_append, List.length_cons, List.length_nil]; omega⟩
  rw [decide_eq_false h1, cond_false]
  by_cases h2 : r1 = 2
  · rw [decide_eq_true h2, cond_true]
    refine loop_bind (x := (c1, ((12 : Int), ([] : List Ed)), (0 : Int))) (P := fun o => ∃ (n : Int) (es : List Ed) (c' : Cur), o = some ((n, es), c') ∧ curOk c' ∧ n ≤ 100 ∧ es.length ≤ 400) (fun (s : Cur × (Int × List Ed) × Int) => ∃ i : Nat, s.2.2 = (i : Int) ∧ i ≤ 12 ∧ curOk s.1 ∧ s.2.1.1 = 12 ∧ s.2.1.2.length ≤ 12 * i) (fun s => 12 - s.2.2.toNat)
      (fun _ (b : Cur × (Int × List Ed)) => curOk b.1 ∧ b.2.1 = 12 ∧ b.2.2.length ≤ 400) (by simp [BIG]) ⟨0, rfl, by omega, o1, rfl, by simp⟩ (fun self s hx hs => ?_) (fun b hb => ?_)
    · obtain ⟨cu, ⟨m, E⟩, jj⟩ := s
      obtain ⟨i, q1, q2, q3, q4, q5⟩ := hx
      simp only at q1 q3 q4 q5 hs ⊢
      subst q1 q4
      by_cases hi : i < 12
      · rw [decide_eq_true (show (i : Int) < 12 from by omega), cond_true, wr1 (by omega)]
        refine loop_bind (x := (cu, ((12 : Int), E), ((i + 1 : Nat) : Int))) (P := fun o => ∃ b : Cur × (Int × List Ed), o = some b ∧ curOk b.1 ∧ b.2.1 = 12 ∧ b.2.2.length ≤ 400) (fun (s : Cur × (Int × List Ed) × Int) => ∃ j : Nat, s.2.2 = (j : Int) ∧ j ≤ 12 ∧ curOk s.1 ∧ s.2.1.1 = 12 ∧ s.2.1.2.length ≤ 12 * i + j) (fun s => 12 - s.2.2.toNat)
          (fun _ (b : Cur × (Int × List Ed)) => curOk b.1 ∧ b.2.1 = 12 ∧ b.2.2.length ≤ 12 * (i + 1)) (by simp [BIG]; omega) ⟨i + 1, rfl, by omega, q3, rfl, by first | omega | (simp only; omega)⟩ (fun self2 s hx hs2 => ?_) (fun b hb => ?_)
        · obtain ⟨cv, ⟨m, F⟩, j2⟩ := s
          obtain ⟨j, t1, t2, t3, t4, t5⟩ := hx
          simp only at t1 t3 t4 t5 hs2 ⊢
          subst t1 t4
          by_cases hj : j < 12
          · obtain ⟨b, c4, k4, o4⟩ := h_sl01Once cv 30 t3 (by omega)
            rw [decide_eq_true (show (j : Int) < 12 from by omega), cond_true, k4, Option.bind_some]
            simp only
            cases b with
            | true =>
              simp only [Bool.not_true, cond_false, Option.bind_some]
              rw [wr1 (by omega)]
              exact hs2 _ ⟨j + 1, rfl, by omega, o4, rfl, by first | omega | (simp only; omega)⟩ (by simp; omega)
            | false =>
              simp only [Bool.not_false, cond_true]
              rw [decide_eq_true (by simp only [List.length_cons, List.length_nil]; omega), cond_true, Option.bind_some, wr1 (by omega)]
              exact hs2 _ ⟨j + 1, rfl, by omega, o4, rfl, by simp only [List.length_append, List.length_cons, List.length_nil]; omega⟩ (by simp; omega)
          · rw [decide_eq_false (show ¬ (j : Int) < 12 from by omega), cond_false]
            exact ⟨_, rfl, t3, rfl, by first | omega | (simp only; omega)⟩
        · obtain ⟨hb1, hb2, hb3⟩ := hb
          exact hs _ ⟨i + 1, rfl, by omega, hb1, hb2, hb3⟩ (by simp; omega)
      · rw [decide_eq_false (show ¬ (i : Int) < 12 from by omega), cond_false]
        exact ⟨_, rfl, q3, rfl, by first | omega | (simp only; omega)⟩
    · obtain ⟨cv, m, F⟩ := b
      obtain ⟨hb1, hb2, hb3⟩ := hb
      exact ⟨m, F, cv, rfl, hb1, by simp only at hb2; omega, hb3⟩
  · rw [decide_eq_false h2, cond_false, Option.bind_some]
    exact ⟨_, _, _, rfl, o1, by first | omega | (simp only; omega), by first | omega | (simp only; omega)⟩
theorem h_sDrawModel (a : List Int) (ha : a.length ≤ 1048576) : ∃ (n : Int) (es : List Ed) (i o x y : Int), g_sDrawModel a = some ((n, es, i, o, x, y), ()) ∧ n ≤ 100 ∧ es.length ≤ 400 := by
  show ∃ (n : Int) (es : List Ed) (i o x y : Int), f_sDrawModel BIG _ = _ ∧ _
  obtain ⟨c0, k0, o0⟩ := h_sl01New a ha
  obtain ⟨n, es, c1, k1, o1, hn, hl⟩ := h_sl05AnyGraph c0 o0
  rw [e_sDrawModel, k0, Option.bind_some, k1, Option.bind_some]
  have hx : ∃ m : Int, (Option.bind (g_sl01In (n, (1 : Int), (12 : Int))) fun r2 =>
   bif !r2.1 then
    some (4 : Int)
   else some n : Option (Int)) = some m ∧ m ≤ 100 := by
    rw [h_sl01In', Option.bind_some]
    cases inB n 1 12 with
    | true => exact ⟨n, rfl, hn⟩
    | false => exact ⟨4, rfl, by omega⟩
  obtain ⟨m, hx, hm⟩ := hx
  simp only
  rw [hx, Option.bind_some]
  obtain ⟨op, x, y, c2, k2, o2⟩ := h_sl12Ask c1 o1 m 3 1 (by omega) (by omega)
  rw [k2, Option.bind_some]
  simp only
  have hb : ∃ b, (bif decide ((0 : Int) < (es.length : Int)) then
     Option.bind (g_sl01Once (c2, (3 : Int))) fun r5 =>
     some r5.1
    else some false : Option (Bool)) = some b ∧ (b = true → 0 < es.length) := by
    by_cases h0 : 0 < es.length
    · obtain ⟨b, c3, k3, o3⟩ := h_sl01Once c2 3 o2 (by omega)
      rw [decide_eq_true (by omega), cond_true, k3]
      exact ⟨b, rfl, fun _ => h0⟩
    · rw [decide_eq_false (by omega), cond_false]
      exact ⟨false, rfl, fun h => by cases h⟩
  obtain ⟨b, hb, hb0⟩ := hb
  rw [hb, Option.bind_some]
  cases b with
  | true =>
    have h0 := hb0 rfl
    simp only [cond_true]
    rw [bnd_ok (by omega) (by omega), List.getElem?_eq_getElem (show Int.toNat 0 < es.length from h0), Option.bind_some, bnd_ok (by omega) (by omega), List.getElem?_eq_getElem (show Int.toNat 0 < es.length from h0), Option.bind_some, Option.bind_some]
    exact ⟨_, _, _, _, _, _, rfl, hn, hl⟩
  | false =>
    simp only [cond_false, Option.bind_some]
    exact ⟨_, _, _, _, _, _, rfl, hn, hl⟩
theorem law_lFnModels (a : List Int) (h : a.length ≤ maxLen) : g_lFnModels a = some (true, ()) := by
  have hm : maxLen = 9223372036854775807 := by decide
  show f_lFnModels BIG _ = _
  rw [e_lFnModels, h_lbig, Option.bind_some]
  by_cases ha : a.length ≤ 1048576
  case neg => rw [decide_eq_true (by omega)]; rfl
  rw [decide_eq_false (by omega), cond_false]
  obtain ⟨n, es, i, o, x, y, k, hn, hl⟩ := h_sDrawModel a ha
  rw [k, Option.bind_some]
  simp only
  rw [h_iModel n es i o x y (by omega) (by omega), Option.bind_some, h_sModel n es i o x y (by omega), Option.bind_some]
  simp only
  obtain ⟨m1, m2, m3⟩ := mdl_yes n es o x y
  have hlen : (mdl n es o x y).2.1.length ≤ es.length + 1 := by
    rcases m2 with e | ⟨_, _, _, _, e⟩
    · rw [e]; omega
    · omega
  rw [h_lsameEdges _ _ (by omega), Option.bind_some]
  simp only [decide_true, Bool.not_true, cond_false]
  rw [decide_eq_true m1]
  simp only [Bool.not_true, Option.bind_some, cond_false]
  have hsame : (mdl n es o x y).2.1 = es → g_lsameEdges ((mdl n es o x y).2.1, es) = some (true, ()) := fun e => by
    rw [h_lsameEdges _ _ (by omega), decide_eq_true e]
  by_cases c1 : (mdl n es o x y).2.2 = 1
  · rw [decide_eq_true c1]
    simp only [Bool.not_true, cond_false]
    by_cases c3 : o = 3
    · have he : (mdl n es o x y).2.1 = es := by
        rcases m2 with e | ⟨_, e, _⟩
        · exact e
        · exact absurd c3 e
      rw [decide_eq_true c3, cond_true, Option.bind_some, cond_true, hsame he, Option.bind_some]
    · rw [decide_eq_false c3, cond_false]
      by_cases c4 : o = 4
      · have he : (mdl n es o x y).2.1 = es := by
          rcases m2 with e | ⟨_, _, e, _⟩
          · exact e
          · exact absurd c4 e
        rw [decide_eq_true c4, Option.bind_some, cond_true, hsame he, Option.bind_some]
      · obtain ⟨g1, g2⟩ := m3 c1 c3 c4
        rw [decide_eq_false c4, Option.bind_some, cond_false, m1, w_sGraphOk _ _ (by omega), g1, Option.bind_some]
        simp only [cond_true]
        rw [wr1 (by omega)]
        rcases g2 with g2 | g2
        · rw [decide_eq_true (by omega), cond_true]
          rfl
        · rw [decide_eq_false (by omega), cond_false, wr (n := (es.length : Int) - 1) (by omega) (by omega), decide_eq_true (by omega)]
          rfl
  · have he : (mdl n es o x y).2.1 = es := by
      rcases m2 with e | ⟨e, _⟩
      · exact e
      · exact absurd e c1
    rw [decide_eq_false c1]
    simp only [Bool.not_false, cond_true, Option.bind_some]
    rw [hsame he, Option.bind_some]
end Go.Fw
