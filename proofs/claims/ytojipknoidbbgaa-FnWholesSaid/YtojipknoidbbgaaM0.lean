/- What the given functions come to. No conditions. -/
import Derived.Test.YtojipknoidbbgaaX0
import Derived.IntWalk
set_option linter.unusedVariables false
set_option linter.unusedSimpArgs false
namespace Go.Fw

theorem loop_rel {X B : Type} {F : (X → Option B) → X → Option B} (I : X → Prop) (μ : X → Nat) (Q : X → B → Prop)
    (h : ∀ self x, I x → (∀ y, I y → μ y < μ x → ∃ b, self y = some b ∧ Q y b) → ∃ b, F self x = some b ∧ Q x b) : ∀ {n : Nat} {x : X}, μ x < n → I x → ∃ b, loopT n F x = some b ∧ Q x b
  | 0, _, hn, _ => absurd hn (Nat.not_lt_zero _)
  | n + 1, x, hn, hi => h (it F n) x hi fun _ hy hm => loop_rel I μ Q h (n := n) (by omega) hy
theorem loop_eq {X B : Type} {F : (X → Option B) → X → Option B} (I : X → Prop) (μ : X → Nat) (R : X → B)
    (h : ∀ self x, I x → (∀ y, I y → μ y < μ x → self y = some (R y)) → F self x = some (R x)) {n : Nat} {x : X} (hn : μ x < n) (hi : I x) : loopT n F x = some (R x) := by
  obtain ⟨b, h1, h2⟩ := loop_rel (F := F) I μ (fun x b => b = R x) (fun self x hx hs => ⟨_, h self x hx fun y hy hm => by obtain ⟨b, h1, h2⟩ := hs y hy hm; rw [h1, h2], rfl⟩) hn hi
  rw [h1, h2]
theorem wr {n : Int} (h : -9223372036854775808 ≤ n) (h' : n ≤ 9223372036854775807) : IntKind.wrap .i64 n = n := by
  rw [IntKind.wrap_i64]; omega
theorem wr1 {i : Nat} (h : i < maxLen) : IntKind.wrap .i64 ((i : Int) + 1) = ((i + 1 : Nat) : Int) := by
  have : maxLen = 9223372036854775807 := by decide
  rw [wr (by omega) (by omega)]; rfl
theorem bnd_ok {B : Type} {len : Nat} {i : Int} {k : Nat → Option B} (h : 0 ≤ i) (h' : i < len) : bnd len i k = k i.toNat := by
  unfold bnd
  rw [if_pos ⟨h, by omega⟩]
theorem bnd_nat {B : Type} {len : Nat} {i : Nat} {k : Nat → Option B} (h' : i < len) : bnd len (i : Int) k = k i := by
  rw [bnd_ok (Int.natCast_nonneg i) (by omega)]
  simp
/-- A loop that goes through a row, and is left at the first place where it is told so. -/
theorem allLoop {α B : Type} (a : List α) (hl : a.length < 18446744073709551616) {F : (Int → Option (Unit ⊕ B)) → Int → Option (Unit ⊕ B)} (p : Nat → Bool) (b : B)
    (hF : ∀ self (i : Nat) y, a[i]? = some y → F self (i : Int) = if p i then self ((i + 1 : Nat) : Int) else some (.inr b))
    (hE : ∀ self, F self (a.length : Int) = some (.inl ())) : loopT BIG F 0 = some (if ∀ i, i < a.length → p i = true then .inl () else .inr b) := by
  have hh := loop_rel (F := F) (fun x => ∃ i : Nat, x = i ∧ i ≤ a.length) (fun x => a.length - x.toNat) (fun x r => ((∀ i : Nat, x ≤ (i : Int) → i < a.length → p i = true) ∧ r = .inl ()) ∨ ((∃ i : Nat, i < a.length ∧ p i = false) ∧ r = .inr b)) (fun self x ⟨i, h1, h2⟩ hs => ?_) (n := BIG) (x := 0) (by simp; exact hl) ⟨0, rfl, by simp⟩
  · obtain ⟨r, hr, hq⟩ := hh
    rw [hr]
    congr 1
    rcases hq with ⟨h1, rfl⟩ | ⟨⟨i, h1, h2⟩, rfl⟩
    · rw [if_pos fun i hi => h1 i (by omega) hi]
    · rw [if_neg]
      intro h
      rw [h i h1] at h2; cases h2
  · subst h1
    by_cases hi : i < a.length
    · rw [hF self i a[i] (List.getElem?_eq_getElem hi)]
      cases hp : p i with
      | true =>
        rw [if_pos rfl]
        obtain ⟨r, hr, hq⟩ := hs _ ⟨i + 1, rfl, hi⟩ (by simp; omega)
        refine ⟨r, hr, ?_⟩
        rcases hq with ⟨h1, rfl⟩ | h1
        · refine .inl ⟨fun k hk hk' => ?_, rfl⟩
          by_cases h : k = i
          · subst h; exact hp
          · exact h1 k (by omega) hk'
        · exact .inr h1
      | false => exact ⟨_, rfl, .inr ⟨⟨i, hi, hp⟩, rfl⟩⟩
    · have : i = a.length := by omega
      subst this
      exact ⟨_, hE self, .inl ⟨fun k hk hk' => by omega, rfl⟩⟩
theorem maxLen_lt : maxLen < 18446744073709551616 := by decide
/-- Two rows that are looked at side by side. -/
theorem eqLoop {α B : Type} [DecidableEq α] (a b : List α) (hl : a.length ≤ maxLen) (hab : a.length = b.length) {F : (Int → Option (Unit ⊕ B)) → Int → Option (Unit ⊕ B)} (r : B)
    (hF : ∀ self (i : Nat) x y, a[i]? = some x → b[i]? = some y → F self (i : Int) = if x = y then self ((i + 1 : Nat) : Int) else some (.inr r))
    (hE : ∀ self, F self (a.length : Int) = some (.inl ())) : loopT BIG F 0 = some (if a = b then .inl () else .inr r) := by
  rw [allLoop a (Nat.lt_of_le_of_lt hl maxLen_lt) (fun i => decide (a[i]? = b[i]?)) r (fun self i y hy => ?_) hE]
  · congr 1
    by_cases h : a = b
    · subst h; simp
    · rw [if_neg h, if_neg]
      intro h'
      apply h
      apply List.ext_getElem? fun i => ?_
      by_cases hi : i < a.length
      · simpa using h' i hi
      · rw [List.getElem?_eq_none (by omega), List.getElem?_eq_none (by omega)]
  · have hi := (List.getElem?_eq_some_iff.1 hy).1
    have hb : b[i]? = some (b[i]'(by omega)) := List.getElem?_eq_getElem (by omega)
    rw [hF self i y _ hy hb, hy, hb]
    simp
/-- A loop that goes through a row and keeps an account. -/
theorem foldLoop {α S B : Type} (a : List α) (hl : a.length < 18446744073709551616) {F : (S × Int → Option B) → S × Int → Option B} (I : Nat → S → Prop) (st : S → α → S) (R : S → B) {s0 : S} (h0 : I 0 s0)
    (hI : ∀ i s y, a[i]? = some y → I i s → I (i + 1) (st s y)) (hF : ∀ self s (i : Nat) y, a[i]? = some y → I i s → F self (s, (i : Int)) = self (st s y, ((i + 1 : Nat) : Int)))
    (hE : ∀ self s, I a.length s → F self (s, (a.length : Int)) = some (R s)) : loopT BIG F (s0, 0) = some (R (a.foldl st s0)) := by
  have := loop_eq (F := F) (fun x => ∃ i : Nat, x.2 = i ∧ i ≤ a.length ∧ I i x.1) (fun x => a.length - x.2.toNat) (fun x => R ((a.drop x.2.toNat).foldl st x.1)) (fun self x ⟨i, h1, h2, h3⟩ hs => ?_) (n := BIG) (x := (s0, 0)) (by simp; exact hl) ⟨0, rfl, by simp, h0⟩
  · simpa using this
  · obtain ⟨s, j⟩ := x
    simp only at h1 h2 h3
    subst h1
    by_cases hi : i < a.length
    · have hy := List.getElem?_eq_getElem hi
      rw [hF self s i a[i] hy h3, hs _ ⟨i + 1, rfl, hi, hI _ _ _ hy h3⟩ (by simp; omega)]
      simp only [Int.toNat_natCast]
      rw [List.drop_eq_getElem_cons hi, List.foldl_cons]
    · have : i = a.length := by omega
      subst this
      rw [hE self s h3]
      simp
theorem set_take_drop {α : Type} {a t : List α} {i : Nat} {z : α} (ht : t.length = a.length) (hi : i < a.length) (hz : t[i]? = some z) : (t.take i ++ a.drop i).set i z = t.take (i + 1) ++ a.drop (i + 1) := by
  have hi' : i < t.length := by omega
  rw [List.getElem?_eq_getElem hi', Option.some.injEq] at hz
  subst hz
  rw [List.set_append_right _ _ (by simp; omega), List.drop_eq_getElem_cons hi, show i - (t.take i).length = 0 from by simp; omega, List.set_cons_zero, List.take_succ_eq_append_getElem hi', List.append_assoc]
  rfl
/-- A row bears marks that go from a number to a number. -/
def HdL {α : Type} (hd : Int → α → Int → Prop) : Int → List α → Int → Prop
  | k, [], k' => k' = k
  | k, z :: t, k' => ∃ k1, hd k z k1 ∧ HdL hd k1 t k'
theorem HdL.snoc {α : Type} {hd : Int → α → Int → Prop} : ∀ {t : List α} {k k1 k2 : Int} {z : α}, HdL hd k t k1 → hd k1 z k2 → HdL hd k (t ++ [z]) k2
  | [], _, _, _, _, h, h' => by cases h; exact ⟨_, h', rfl⟩
  | _ :: _, _, _, _, _, ⟨k3, h1, h2⟩, h' => ⟨k3, h1, h2.snoc h'⟩
/-- Two vertices hang together by edges. -/
inductive Con (E : List (Int × Int)) : Int → Int → Prop
  | refl (v : Int) : Con E v v
  | fwd {u v w : Int} : Con E u v → (v, w) ∈ E → Con E u w
  | bwd {u v w : Int} : Con E u v → (w, v) ∈ E → Con E u w
theorem Con.trans {E : List (Int × Int)} {u v w : Int} (h : Con E u v) (h' : Con E v w) : Con E u w := by
  induction h' with
  | refl => exact h
  | fwd _ he ih => exact .fwd ih he
  | bwd _ he ih => exact .bwd ih he
theorem Con.symm {E : List (Int × Int)} {u v : Int} (h : Con E u v) : Con E v u := by
  induction h with
  | refl => exact .refl _
  | fwd _ he ih => exact Con.trans (.bwd (.refl _) he) ih
  | bwd _ he ih => exact Con.trans (.fwd (.refl _) he) ih
theorem Con.mono {E E' : List (Int × Int)} (hE : ∀ e, e ∈ E → e ∈ E') {u v : Int} (h : Con E u v) : Con E' u v := by
  induction h with
  | refl => exact .refl _
  | fwd _ he ih => exact .fwd ih (hE _ he)
  | bwd _ he ih => exact .bwd ih (hE _ he)
theorem Con.of {E : List (Int × Int)} {u v : Int} (h : (u, v) ∈ E) : Con E u v := .fwd (.refl _) h
/-- Each edge of the one row hangs together by the other. -/
theorem Con.sub {E E' : List (Int × Int)} (hE : ∀ e, e ∈ E → Con E' e.1 e.2) {u v : Int} (h : Con E u v) : Con E' u v := by
  induction h with
  | refl => exact .refl _
  | fwd _ he ih => exact ih.trans (hE _ he)
  | bwd _ he ih => exact ih.trans (hE _ he).symm
theorem Con.nil {u v : Int} (h : Con [] u v) : u = v := by
  induction h with
  | refl => rfl
  | fwd _ he _ => cases he
  | bwd _ he _ => cases he
theorem Con.snoc {E : List (Int × Int)} {a b u v : Int} : Con (E ++ [(a, b)]) u v ↔ Con E u v ∨ (Con E u a ∧ Con E b v) ∨ (Con E u b ∧ Con E a v) := by
  constructor
  · intro h
    induction h with
    | refl => exact .inl (.refl _)
    | fwd _ he ih =>
      rcases List.mem_append.1 he with h1 | h1
      · rcases ih with h | ⟨h, h'⟩ | ⟨h, h'⟩
        · exact .inl (.fwd h h1)
        · exact .inr (.inl ⟨h, .fwd h' h1⟩)
        · exact .inr (.inr ⟨h, .fwd h' h1⟩)
      · cases List.mem_singleton.1 h1
        rcases ih with h | ⟨h, h'⟩ | ⟨h, h'⟩
        · exact .inr (.inl ⟨h, .refl _⟩)
        · exact .inr (.inl ⟨h, .refl _⟩)
        · exact .inl h
    | bwd _ he ih =>
      rcases List.mem_append.1 he with h1 | h1
      · rcases ih with h | ⟨h, h'⟩ | ⟨h, h'⟩
        · exact .inl (.bwd h h1)
        · exact .inr (.inl ⟨h, .bwd h' h1⟩)
        · exact .inr (.inr ⟨h, .bwd h' h1⟩)
      · cases List.mem_singleton.1 h1
        rcases ih with h | ⟨h, h'⟩ | ⟨h, h'⟩
        · exact .inr (.inr ⟨h, .refl _⟩)
        · exact .inl h
        · exact .inr (.inr ⟨h, .refl _⟩)
  · have hm : ∀ {x y : Int}, Con E x y → Con (E ++ [(a, b)]) x y := fun h => h.mono fun e he => List.mem_append_left _ he
    have hab : Con (E ++ [(a, b)]) a b := .of (List.mem_append_right _ (List.mem_singleton.2 rfl))
    rintro (h | ⟨h, h'⟩ | ⟨h, h'⟩)
    · exact hm h
    · exact (hm h).trans (hab.trans (hm h'))
    · exact (hm h).trans (hab.symm.trans (hm h'))
/-- Edges of so many vertices. -/
def EIn (n : Nat) (E : List (Int × Int)) : Prop := ∀ e, e ∈ E → 0 ≤ e.1 ∧ e.1 < n ∧ 0 ≤ e.2 ∧ e.2 < n
theorem Con.range {n : Nat} {E : List (Int × Int)} (hE : EIn n E) {u v : Int} (h : Con E u v) (hu : 0 ≤ u ∧ u < n) : 0 ≤ v ∧ v < n := by
  induction h with
  | refl => exact hu
  | fwd _ he _ => exact ⟨(hE _ he).2.2.1, (hE _ he).2.2.2⟩
  | bwd _ he _ => exact ⟨(hE _ he).1, (hE _ he).2.1⟩
/-- Labels: to each vertex the least one that it hangs together with. -/
def Lab (n : Nat) (E : List (Int × Int)) (l : List Int) : Prop :=
  l.length = n ∧ ∀ (v : Nat) (x : Int), l[v]? = some x → Con E v x ∧ 0 ≤ x ∧ ∀ u : Int, 0 ≤ u → Con E v u → x ≤ u
theorem Lab.le {n : Nat} {E : List (Int × Int)} {l : List Int} (h : Lab n E l) {v : Nat} {x : Int} (hx : l[v]? = some x) : x ≤ v :=
  (h.2 v x hx).2.2 v (Int.natCast_nonneg v) (.refl _)
theorem Lab.lt {n : Nat} {E : List (Int × Int)} {l : List Int} (h : Lab n E l) {v : Nat} {x : Int} (hx : l[v]? = some x) : 0 ≤ x ∧ x < n := by
  have h1 := h.le hx
  have h2 := (List.getElem?_eq_some_iff.1 hx).1
  have h3 := (h.2 v x hx).2.1
  have h4 := h.1
  omega
theorem Lab.iff {n : Nat} {E : List (Int × Int)} {l : List Int} (h : Lab n E l) {u v : Nat} {x y : Int} (hx : l[u]? = some x) (hy : l[v]? = some y) : x = y ↔ Con E u v := by
  have h1 := h.2 u x hx
  have h2 := h.2 v y hy
  constructor
  · intro e
    subst e
    exact h1.1.trans h2.1.symm
  · intro c
    have a := h1.2.2 y h2.2.1 (c.trans h2.1)
    have b := h2.2.2 x h1.2.1 (c.symm.trans h1.1)
    omega
/-- A label is its own label. -/
theorem Lab.self {n : Nat} {E : List (Int × Int)} {l : List Int} (h : Lab n E l) {v : Nat} {x : Int} (hx : l[v]? = some x) : l[x.toNat]? = some x := by
  have h1 := h.lt hx
  have hi : x.toNat < l.length := by rw [h.1]; omega
  rw [List.getElem?_eq_getElem hi]
  have h2 := h.2 v x hx
  have hc : Con E (x.toNat : Int) v := by rw [Int.toNat_of_nonneg h1.1]; exact h2.1.symm
  rw [(h.iff (List.getElem?_eq_getElem hi) hx).2 hc]
theorem Lab.uniq {n : Nat} {E E' : List (Int × Int)} {l l' : List Int} (h : Lab n E l) (h' : Lab n E' l') (hc : ∀ u v : Int, Con E u v ↔ Con E' u v) : l = l' := by
  apply List.ext_getElem?
  intro i
  by_cases hi : i < n
  · have e1 : l[i]? = some (l[i]'(by rw [h.1]; exact hi)) := List.getElem?_eq_getElem _
    have e2 : l'[i]? = some (l'[i]'(by rw [h'.1]; exact hi)) := List.getElem?_eq_getElem _
    rw [e1, e2]
    have h1 := h.2 i _ e1
    have h2 := h'.2 i _ e2
    have a := h1.2.2 _ h2.2.1 ((hc _ _).2 h2.1)
    have b := h2.2.2 _ h1.2.1 ((hc _ _).1 h1.1)
    congr 1
    omega
  · rw [List.getElem?_eq_none (by rw [h.1]; omega), List.getElem?_eq_none (by rw [h'.1]; omega)]
/-- Labels without edges. -/
def lab0 (n : Nat) : List Int := (List.range n).map fun (i : Nat) => (i : Int)
theorem lab0_get {n v : Nat} {x : Int} (h : (lab0 n)[v]? = some x) : v < n ∧ x = v := by
  have hi := (List.getElem?_eq_some_iff.1 h).1
  simp only [lab0, List.length_map, List.length_range] at hi
  simp only [lab0, List.getElem?_map, List.getElem?_range hi, Option.map_some, Option.some.injEq] at h
  exact ⟨hi, h.symm⟩
theorem lab0_len (n : Nat) : (lab0 n).length = n := by simp [lab0]
theorem Lab.zero (n : Nat) : Lab n [] (lab0 n) := by
  refine ⟨lab0_len n, fun v x h => ?_⟩
  obtain ⟨_, rfl⟩ := lab0_get h
  exact ⟨.refl _, Int.natCast_nonneg v, fun u _ h => by rw [h.nil]; exact Int.le_refl _⟩
/-- Two labels made one. -/
def unL (l : List Int) (x y : Int) : List Int := l.map fun z => if z = (if y > x then y else x) then (if y < x then y else x) else z
theorem unL_len (l : List Int) (x y : Int) : (unL l x y).length = l.length := by simp [unL]
theorem unL_same (l : List Int) (x : Int) : unL l x x = l := by
  unfold unL
  conv => rhs; rw [← List.map_id l]
  apply List.map_congr_left
  intro z _
  simp only [gt_iff_lt, Int.lt_irrefl, if_false, id]
  split <;> simp_all
theorem Lab.union {n : Nat} {E : List (Int × Int)} {l : List Int} (h : Lab n E l) {a b : Nat} {x y : Int} (hx : l[a]? = some x) (hy : l[b]? = some y) : Lab n (E ++ [((a : Int), (b : Int))]) (unL l x y) := by
  refine ⟨by rw [unL_len, h.1], fun v z hz => ?_⟩
  simp only [unL, List.getElem?_map, Option.map_eq_some_iff] at hz
  obtain ⟨w, hw, hz⟩ := hz
  have hax := h.2 a x hx
  have hby := h.2 b y hy
  have hvw := h.2 v w hw
  have ew : ∀ {c : Nat} {t : Int}, l[c]? = some t → (w = t ↔ Con E v c) := fun hc => h.iff hw hc
  have hA := ew hx
  have hB := ew hy
  have hab : Con (E ++ [((a : Int), (b : Int))]) a b := .of (List.mem_append_right _ (List.mem_singleton.2 rfl))
  have hm : ∀ {s t : Int}, Con E s t → Con (E ++ [((a : Int), (b : Int))]) s t := fun h => h.mono fun e he => List.mem_append_left _ he
  by_cases hxy : x = y
  · subst hxy
    have hcab : Con E a b := (h.iff hx hy).1 rfl
    have : z = w := by
      subst hz
      simp only [gt_iff_lt, Int.lt_irrefl, if_false]
      split <;> simp_all
    subst this
    refine ⟨hm hvw.1, hvw.2.1, fun u hu hc => ?_⟩
    apply hvw.2.2 u hu
    rcases Con.snoc.1 hc with h1 | ⟨h1, h2⟩ | ⟨h1, h2⟩
    · exact h1
    · exact h1.trans (hcab.trans h2)
    · exact h1.trans (hcab.symm.trans h2)
  · have key : ∀ u : Int, 0 ≤ u → Con (E ++ [((a : Int), (b : Int))]) v u → (w ≤ u) ∨ (w = x ∧ y ≤ u) ∨ (w = y ∧ x ≤ u) := by
      intro u hu hc
      rcases Con.snoc.1 hc with h1 | ⟨h1, h2⟩ | ⟨h1, h2⟩
      · exact .inl (hvw.2.2 u hu h1)
      · exact .inr (.inl ⟨hA.2 h1, hby.2.2 u hu h2⟩)
      · exact .inr (.inr ⟨hB.2 h1, hax.2.2 u hu h2⟩)
    by_cases hwx : w = x
    · have hva := hA.1 hwx
      subst hwx
      by_cases hlt : y > w
      · rw [if_pos hlt, if_neg (by omega)] at hz
        subst hz
        refine ⟨hm hvw.1, hvw.2.1, fun u hu hc => ?_⟩
        rcases key u hu hc with h1 | h1 | h1 <;> omega
      · rw [if_neg hlt, if_pos rfl, if_pos (by omega)] at hz
        subst hz
        refine ⟨(hm hva).trans (hab.trans (hm hby.1)), hby.2.1, fun u hu hc => ?_⟩
        rcases key u hu hc with h1 | h1 | h1 <;> omega
    · by_cases hwy : w = y
      · have hvb := hB.1 hwy
        subst hwy
        by_cases hlt : w > x
        · rw [if_pos hlt, if_pos rfl, if_neg (by omega)] at hz
          subst hz
          refine ⟨(hm hvb).trans (hab.symm.trans (hm hax.1)), hax.2.1, fun u hu hc => ?_⟩
          rcases key u hu hc with h1 | h1 | h1 <;> omega
        · rw [if_neg hlt, if_neg hwx] at hz
          subst hz
          refine ⟨hm hvw.1, hvw.2.1, fun u hu hc => ?_⟩
          rcases key u hu hc with h1 | h1 | h1 <;> omega
      · rw [if_neg (by split <;> omega)] at hz
        subst hz
        refine ⟨hm hvw.1, hvw.2.1, fun u hu hc => ?_⟩
        rcases key u hu hc with h1 | h1 | h1 <;> omega
/-- One edge's part in the labels. -/
def unE (l : List Int) (e : Int × Int) : List Int := unL l (l.getD e.1.toNat 0) (l.getD e.2.toNat 0)
theorem unE_len (l : List Int) (e : Int × Int) : (unE l e).length = l.length := unL_len _ _ _
theorem Lab.unE {n : Nat} {E : List (Int × Int)} {l : List Int} (h : Lab n E l) {e : Int × Int} (he : 0 ≤ e.1 ∧ e.1 < n ∧ 0 ≤ e.2 ∧ e.2 < n) : Lab n (E ++ [e]) (unE l e) := by
  have h1 : e.1.toNat < l.length := by rw [h.1]; omega
  have h2 : e.2.toNat < l.length := by rw [h.1]; omega
  have := h.union (a := e.1.toNat) (b := e.2.toNat) (List.getElem?_eq_getElem h1) (List.getElem?_eq_getElem h2)
  rw [Int.toNat_of_nonneg he.1, Int.toNat_of_nonneg he.2.2.1] at this
  unfold Go.Fw.unE
  rw [List.getD_eq_getElem?_getD, List.getD_eq_getElem?_getD, List.getElem?_eq_getElem h1, List.getElem?_eq_getElem h2]
  exact this
theorem Lab.fold {n : Nat} : ∀ {D E : List (Int × Int)} {l : List Int}, Lab n E l → EIn n D → Lab n (E ++ D) (D.foldl Go.Fw.unE l)
  | [], E, l, h, _ => by simpa using h
  | e :: D, E, l, h, hD => by
    have := Lab.fold (D := D) (h.unE (hD e (List.mem_cons_self ..))) fun x hx => hD x (List.mem_cons_of_mem _ hx)
    rw [List.foldl_cons]
    rwa [List.append_assoc] at this
/-- The labels by edges. -/
def labs (n : Nat) (E : List (Int × Int)) : List Int := E.foldl unE (lab0 n)
theorem labs_ok {n : Nat} {E : List (Int × Int)} (h : EIn n E) : Lab n E (labs n E) := by
  have := (Lab.zero n).fold h
  simpa [labs] using this
theorem labs_len (n : Nat) (E : List (Int × Int)) : (labs n E).length = n := by
  have : ∀ (E : List (Int × Int)) (l : List Int), (E.foldl unE l).length = l.length := by
    intro E
    induction E with
    | nil => simp
    | cons e E ih => intro l; rw [List.foldl_cons, ih, unE_len]
  rw [labs, this, lab0_len]
/-- One edge's part in a round of labels that are made less and less. -/
def rlE (l : List Int) (e : Int × Int) : List Int :=
  let x := l.getD e.1.toNat 0
  let y := l.getD e.2.toNat 0
  let l := if x < y then l.set e.2.toNat x else l
  if y < x then l.set e.1.toNat y else l
theorem rlE_len (l : List Int) (e : Int × Int) : (rlE l e).length = l.length := by
  unfold rlE; simp only; split <;> split <;> simp
def lrnd (E : List (Int × Int)) (l : List Int) : List Int := E.foldl rlE l
theorem lrnd_len : ∀ (E : List (Int × Int)) (l : List Int), (lrnd E l).length = l.length
  | [], l => rfl
  | e :: E, l => by show (lrnd E (rlE l e)).length = _; rw [lrnd_len E, rlE_len]
section
variable {n : Nat} {E : List (Int × Int)} {L : List Int}
/-- On the way down to the labels. -/
def Dn (n : Nat) (E : List (Int × Int)) (l : List Int) : Prop := l.length = n ∧ ∀ (v : Nat) (x : Int), l[v]? = some x → Con E v x ∧ 0 ≤ x
theorem Dn.ge (hL : Lab n E L) {l : List Int} (h : Dn n E l) {v : Nat} {x y : Int} (hx : l[v]? = some x) (hy : L[v]? = some y) : y ≤ x :=
  (hL.2 v y hy).2.2 x (h.2 v x hx).2 (h.2 v x hx).1
theorem Dn.set {l : List Int} (h : Dn n E l) {v : Nat} {x : Int} (hc : Con E v x) (h0 : 0 ≤ x) : Dn n E (l.set v x) := by
  refine ⟨by simp [h.1], fun u y hu => ?_⟩
  rw [List.getElem?_set] at hu
  split at hu
  · subst v
    split at hu
    · cases hu; exact ⟨hc, h0⟩
    · cases hu
  · exact h.2 u y hu
theorem getD_at {l : List Int} {i : Nat} (h : i < l.length) : l[i]? = some (l.getD i 0) := by
  rw [List.getD_eq_getElem?_getD, List.getElem?_eq_getElem h]; rfl
/-- What an edge's part does. -/
theorem Dn.rlE (hL : Lab n E L) {l : List Int} (h : Dn n E l) {e : Int × Int} (hm : e ∈ E) (he : 0 ≤ e.1 ∧ e.1 < n ∧ 0 ≤ e.2 ∧ e.2 < n) :
    Dn n E (rlE l e) ∧ (∀ (v : Nat), (rlE l e).getD v 0 ≤ l.getD v 0) ∧
    (l.getD e.1.toNat 0 = L.getD e.1.toNat 0 → (rlE l e).getD e.2.toNat 0 = L.getD e.2.toNat 0) ∧
    (l.getD e.2.toNat 0 = L.getD e.2.toNat 0 → (rlE l e).getD e.1.toNat 0 = L.getD e.1.toNat 0) := by
  obtain ⟨h1, h2, h3, h4⟩ := he
  have i1 : e.1.toNat < l.length := by rw [h.1]; omega
  have i2 : e.2.toNat < l.length := by rw [h.1]; omega
  have j1 : e.1.toNat < L.length := by rw [hL.1]; omega
  have j2 : e.2.toNat < L.length := by rw [hL.1]; omega
  have c12 : Con E (e.1.toNat : Int) (e.2.toNat : Int) := by
    rw [Int.toNat_of_nonneg h1, Int.toNat_of_nonneg h3]; exact .of hm
  have hLe := (hL.iff (getD_at j1) (getD_at j2)).2 c12
  have a1 := h.2 _ _ (getD_at i1)
  have a2 := h.2 _ _ (getD_at i2)
  have g1 := h.ge hL (getD_at i1) (getD_at j1)
  have g2 := h.ge hL (getD_at i2) (getD_at j2)
  have gs : ∀ (i : Nat) (z : Int) (v : Nat), i < l.length → (l.set i z).getD v 0 = if i = v then z else l.getD v 0 := by
    intro i z v hi
    rw [List.getD_eq_getElem?_getD, List.getElem?_set]
    split
    · subst v; simp
    · rw [List.getD_eq_getElem?_getD]
  unfold Go.Fw.rlE
  simp only
  by_cases hlt : l.getD e.1.toNat 0 < l.getD e.2.toNat 0
  · rw [if_pos hlt, if_neg (by omega)]
    refine ⟨h.set (c12.symm.trans a1.1) a1.2, fun v => ?_, fun hd => ?_, fun hd => ?_⟩
    · rw [gs _ _ _ i2]
      split
      · subst v; omega
      · exact Int.le_refl _
    · rw [gs _ _ _ i2, if_pos rfl]; omega
    · omega
  · rw [if_neg hlt]
    by_cases hgt : l.getD e.2.toNat 0 < l.getD e.1.toNat 0
    · rw [if_pos hgt]
      refine ⟨h.set (c12.trans a2.1) a2.2, fun v => ?_, fun hd => ?_, fun hd => ?_⟩
      · rw [gs _ _ _ i1]
        split
        · subst v; omega
        · exact Int.le_refl _
      · omega
      · rw [gs _ _ _ i1, if_pos rfl]; omega
    · rw [if_neg hgt]
      refine ⟨h, fun v => Int.le_refl _, fun hd => ?_, fun hd => ?_⟩ <;> omega
theorem Dn.rnd (hL : Lab n E L) (hE : EIn n E) : ∀ (D : List (Int × Int)) (l : List Int), (∀ e, e ∈ D → e ∈ E) → Dn n E l →
    Dn n E (lrnd D l) ∧ (∀ v : Nat, (lrnd D l).getD v 0 ≤ l.getD v 0) ∧
    ∀ e, e ∈ D → (l.getD e.1.toNat 0 = L.getD e.1.toNat 0 → (lrnd D l).getD e.2.toNat 0 = L.getD e.2.toNat 0) ∧ (l.getD e.2.toNat 0 = L.getD e.2.toNat 0 → (lrnd D l).getD e.1.toNat 0 = L.getD e.1.toNat 0)
  | [], l, _, h => ⟨h, fun v => Int.le_refl _, fun e he => by cases he⟩
  | e :: D, l, hs, h => by
    have hm := hs e (List.mem_cons_self ..)
    obtain ⟨h1, h2, h3, h4⟩ := h.rlE hL hm (hE e hm)
    obtain ⟨k1, k2, k3⟩ := Dn.rnd hL hE D (Go.Fw.rlE l e) (fun x hx => hs x (List.mem_cons_of_mem _ hx)) h1
    -- what is done stays done
    have dn : ∀ {l' : List Int} (v : Nat), v < n → Dn n E l' → (∀ u : Nat, l'.getD u 0 ≤ l.getD u 0) → l.getD v 0 = L.getD v 0 → l'.getD v 0 = L.getD v 0 := by
      intro l' v hv hl' hle hd
      have hg := hl'.ge hL (getD_at (l := l') (i := v) (by rw [hl'.1]; exact hv)) (getD_at (l := L) (i := v) (by rw [hL.1]; exact hv))
      have := hle v
      omega
    have dn' : ∀ (v : Nat), v < n → (Go.Fw.rlE l e).getD v 0 = L.getD v 0 → (Go.Fw.lrnd D (Go.Fw.rlE l e)).getD v 0 = L.getD v 0 := by
      intro v hv hd
      have hg := k1.ge hL (getD_at (i := v) (by rw [k1.1]; exact hv)) (getD_at (l := L) (i := v) (by rw [hL.1]; exact hv))
      have := k2 v
      omega
    refine ⟨k1, fun v => Int.le_trans (k2 v) (h2 v), fun e' he' => ?_⟩
    rcases List.mem_cons.1 he' with rfl | he'
    · have hb := hE _ hm
      exact ⟨fun hd => dn' _ (by omega) (h3 hd), fun hd => dn' _ (by omega) (h4 hd)⟩
    · have hb := hE _ (hs e' (List.mem_cons_of_mem _ he'))
      exact ⟨fun hd => (k3 e' he').1 (dn _ (by omega) h1 h2 hd), fun hd => (k3 e' he').2 (dn _ (by omega) h1 h2 hd)⟩
/-- How many vertices have their label. -/
def cntD (n : Nat) (L l : List Int) : Nat := (List.range n).countP fun v => decide (l.getD v 0 = L.getD v 0)
theorem countP_lt {p q : Nat → Bool} : ∀ {m : List Nat}, (∀ x, x ∈ m → p x = true → q x = true) → (∃ x, x ∈ m ∧ p x = false ∧ q x = true) → m.countP p < m.countP q
  | [], _, ⟨x, hx, _⟩ => by cases hx
  | a :: m, h, ⟨x, hx, hp, hq⟩ => by
    rw [List.countP_cons, List.countP_cons]
    have hle : m.countP p ≤ m.countP q := List.countP_mono_left fun y hy => h y (List.mem_cons_of_mem _ hy)
    rcases List.mem_cons.1 hx with rfl | hx
    · rw [if_neg (by simp [hp]), if_pos hq]; omega
    · have := countP_lt (fun y hy => h y (List.mem_cons_of_mem _ hy)) ⟨x, hx, hp, hq⟩
      have ha := h a (List.mem_cons_self ..)
      cases hpa : p a with
      | true => rw [ha hpa]; simp; omega
      | false => cases hqa : q a <;> simp <;> omega
theorem con_step {D : Int → Prop} {u v : Int} (h : Con E u v) (hu : D u) (hv : ¬ D v) : ∃ x y : Int, D x ∧ ¬ D y ∧ ((x, y) ∈ E ∨ (y, x) ∈ E) := by
  induction h with
  | refl => exact absurd hu hv
  | @fwd a b _ he ih =>
    by_cases hb : D a
    · exact ⟨_, _, hb, hv, .inl he⟩
    · exact ih hb
  | @bwd a b _ he ih =>
    by_cases hb : D a
    · exact ⟨_, _, hb, hv, .inr he⟩
    · exact ih hb
def lrnds (E : List (Int × Int)) : Nat → List Int → List Int
  | 0, l => l
  | k + 1, l => lrnds E k (Go.Fw.lrnd E l)
/-- A round that does not end it makes one more vertex right. -/
theorem lrnd_more (hL : Lab n E L) (hE : EIn n E) {l : List Int} (h : Dn n E l) (hs : ∀ v : Nat, v < n → L.getD v 0 = v → l.getD v 0 = v) (hne : l ≠ L) :
    cntD n L l < cntD n L (Go.Fw.lrnd E l) := by
  obtain ⟨k1, k2, k3⟩ := Dn.rnd hL hE E l (fun _ h => h) h
  have stay : ∀ v : Nat, v < n → l.getD v 0 = L.getD v 0 → (Go.Fw.lrnd E l).getD v 0 = L.getD v 0 := by
    intro v hv hd
    have hg := k1.ge hL (getD_at (i := v) (by rw [k1.1]; exact hv)) (getD_at (l := L) (i := v) (by rw [hL.1]; exact hv))
    have := k2 v
    omega
  have : ∃ v : Nat, v < n ∧ l.getD v 0 ≠ L.getD v 0 := by
    apply Classical.byContradiction
    intro hn
    apply hne
    apply List.ext_getElem?
    intro i
    by_cases hi : i < n
    · rw [getD_at (l := l) (i := i) (by rw [h.1]; exact hi), getD_at (l := L) (i := i) (by rw [hL.1]; exact hi)]
      congr 1
      exact Classical.byContradiction fun hc => hn ⟨i, hi, hc⟩
    · rw [List.getElem?_eq_none (by rw [h.1]; omega), List.getElem?_eq_none (by rw [hL.1]; omega)]
  obtain ⟨v, hv, hnd⟩ := this
  have gL := getD_at (l := L) (i := v) (by rw [hL.1]; exact hv)
  have hm := hL.lt gL
  have hself := hL.self gL
  have hcon := (hL.2 v _ gL).1
  obtain ⟨x, y, hx, hy, he⟩ := con_step (D := fun z : Int => 0 ≤ z ∧ z < n ∧ l.getD z.toNat 0 = L.getD z.toNat 0) hcon.symm
    ⟨hm.1, hm.2, by
      have e1 : L.getD (L.getD v 0).toNat 0 = L.getD v 0 := by rw [List.getD_eq_getElem?_getD (i := (L.getD v 0).toNat), hself]; rfl
      rw [e1, hs (L.getD v 0).toNat (by omega) (by rw [e1]; omega)]; omega⟩
    (fun hd => hnd (by simpa using hd.2.2))
  refine countP_lt (fun z hz hp => ?_) ⟨y.toNat, ?_, ?_, ?_⟩
  · simp only [decide_eq_true_eq] at hp ⊢
    exact stay z (List.mem_range.1 hz) hp
  · rw [List.mem_range]
    rcases he with he | he <;> have := hE _ he <;> simp only at this <;> omega
  · simp only [decide_eq_false_iff_not]
    intro hd
    apply hy
    rcases he with he | he <;> have := hE _ he <;> simp only at this <;> exact ⟨by omega, by omega, hd⟩
  · simp only [decide_eq_true_eq]
    rcases he with he | he
    · exact (k3 _ he).1 hx.2.2
    · exact (k3 _ he).2 hx.2.2
theorem lrnds_end (hL : Lab n E L) (hE : EIn n E) : ∀ (k : Nat) (l : List Int), Dn n E l → (∀ v : Nat, v < n → L.getD v 0 = v → l.getD v 0 = v) → n ≤ cntD n L l + k → lrnds E k l = L
  | 0, l, h, hs, hc => by
    have hall : cntD n L l = n := by
      have : cntD n L l ≤ (List.range n).length := List.countP_le_length
      rw [List.length_range] at this; omega
    apply Classical.byContradiction
    intro hne
    have := lrnd_more hL hE h hs hne
    have : cntD n L (Go.Fw.lrnd E l) ≤ (List.range n).length := List.countP_le_length
    rw [List.length_range] at this
    omega
  | k + 1, l, h, hs, hc => by
    obtain ⟨k1, k2, _⟩ := Dn.rnd hL hE E l (fun _ h => h) h
    refine lrnds_end hL hE k (Go.Fw.lrnd E l) k1 (fun v hv e => ?_) ?_
    · have hg := k1.ge hL (getD_at (i := v) (by rw [k1.1]; exact hv)) (getD_at (l := L) (i := v) (by rw [hL.1]; exact hv))
      have := k2 v
      have := hs v hv e
      omega
    · by_cases hne : l = L
      · subst hne
        have : cntD n l (Go.Fw.lrnd E l) = n := by
          unfold cntD
          rw [show n = (List.range n).length from by simp, ← List.length_range (n := n), List.countP_eq_length.2]
          · simp
          · intro v hv
            simp only [List.length_range, List.mem_range] at hv
            simp only [decide_eq_true_eq]
            have hg := k1.ge hL (getD_at (i := v) (by rw [k1.1]; exact hv)) (getD_at (l := l) (i := v) (by rw [hL.1]; exact hv))
            have := k2 v
            omega
        omega
      · have := lrnd_more hL hE h hs hne
        omega
/-- So many rounds as there are vertices make the labels. -/
theorem lrnds_labs (hE : EIn n E) : lrnds E n (lab0 n) = labs n E := by
  refine lrnds_end (labs_ok hE) hE n (lab0 n) ⟨lab0_len n, fun v x h => ?_⟩ (fun v hv e => ?_) (by omega)
  · obtain ⟨_, rfl⟩ := lab0_get h
    exact ⟨.refl _, Int.natCast_nonneg v⟩
  · have := getD_at (l := lab0 n) (i := v) (by rw [lab0_len]; exact hv)
    exact (lab0_get this).2
end
theorem h_sl01In (a b c : Int) : g_sl01In (a, b, c) = some (decide (b ≤ a) && decide (a ≤ c), ()) := by
  show f_sl01In BIG _ = _
  rw [e_sl01In]
  cases decide (b ≤ a) <;> rfl
theorem h_iin (a b c : Int) : g_iin (a, b, c) = some (decide (b ≤ a) && decide (a ≤ c), ()) := by
  show f_iin BIG _ = _
  rw [e_iin]
  cases decide (b ≤ a) <;> rfl
abbrev Ed := Int × Int
theorem foldl_filter {α : Type} (p : α → Bool) : ∀ (l : List α) (s : List α), l.foldl (fun s y => if p y then s ++ [y] else s) s = s ++ l.filter p
  | [], s => by simp
  | y :: l, s => by
    rw [List.foldl_cons, foldl_filter p l]
    cases h : p y <;> simp [h]
abbrev Sd := Int × Int × Int × Int × Int × Int
def inB (a b c : Int) : Bool := decide (b ≤ a) && decide (a ≤ c)
theorem h_sl01In' (a b c : Int) : g_sl01In (a, b, c) = some (inB a b c, ()) := h_sl01In a b c
theorem h_iin' (a b c : Int) : g_iin (a, b, c) = some (inB a b c, ()) := h_iin a b c
theorem inB_t {a b c : Int} : inB a b c = true ↔ b ≤ a ∧ a ≤ c := by simp [inB]
def edB (n : Int) (e : Ed) : Bool := inB n 1 12 && (inB e.1 0 (n - 1) && (inB e.2 0 (n - 1) && decide (e.1 < e.2)))
theorem h_iEdgeOk (n : Int) (e : Ed) : g_iEdgeOk (n, e) = some (edB n e, ()) := by
  show f_iEdgeOk BIG _ = _
  rw [e_iEdgeOk, h_iin', Option.bind_some]
  unfold edB
  cases h : inB n 1 12 with
  | false => rfl
  | true =>
    have := inB_t.1 h
    rw [wr (by omega) (by omega)]
    simp only [h_iin', Option.bind_some, cond_true, Bool.true_and]
    cases inB e.1 0 (n - 1) <;> cases inB e.2 0 (n - 1) <;> rfl
theorem h_sEdgeOk (n : Int) (e : Ed) : g_sEdgeOk (n, e) = some (edB n e, ()) := by
  show f_sEdgeOk BIG _ = _
  rw [e_sEdgeOk, h_sl01In', Option.bind_some]
  unfold edB
  cases h : inB n 1 12 with
  | false => rfl
  | true =>
    have := inB_t.1 h
    rw [wr (by omega) (by omega)]
    simp only [h_sl01In', Option.bind_some, cond_true, Bool.true_and]
    cases inB e.1 0 (n - 1) <;> cases inB e.2 0 (n - 1) <;> rfl
def lsB (x y : Ed) : Bool := decide (x.1 < y.1) || (decide (x.1 = y.1) && decide (x.2 < y.2))
theorem h_iahead (x y : Ed) : g_iahead (x, y) = some (lsB x y, ()) := by
  show f_iahead BIG _ = _
  rw [e_iahead]
  unfold lsB
  cases decide (x.1 < y.1) <;> cases decide (x.1 = y.1) <;> rfl
theorem h_sl05Less (x y : Ed) : g_sl05Less (x, y) = some (lsB x y, ()) := by
  show f_sl05Less BIG _ = _
  rw [e_sl05Less]
  unfold lsB
  cases decide (x.1 < y.1) <;> cases decide (x.1 = y.1) <;> rfl
def eP (n : Int) (es : List Ed) (i : Nat) : Bool := match es[i]? with
  | some y => edB n y && (match i with
    | 0 => true
    | j + 1 => match es[j]? with
      | some x => lsB x y
      | none => false)
  | none => false
theorem eP_0 {n : Int} {es : List Ed} {y : Ed} (h : es[0]? = some y) : eP n es 0 = edB n y := by
  unfold eP; rw [h]; simp
theorem eP_s {n : Int} {es : List Ed} {x y : Ed} {j : Nat} (h : es[j + 1]? = some y) (h' : es[j]? = some x) : eP n es (j + 1) = (edB n y && lsB x y) := by
  unfold eP; rw [h]; simp only [h']
def eOk (n : Int) (es : List Ed) : Bool := if ∀ i, i < es.length → eP n es i = true then decide ((es.length : Int) ≤ 66) else false
theorem eOk_len {n : Int} {es : List Ed} (h : eOk n es = true) : es.length ≤ 66 := by
  unfold eOk at h
  split at h
  · rw [decide_eq_true_eq] at h; omega
  · cases h
theorem h_sl05Edges (n : Int) (es : List Ed) (hl : es.length ≤ 1048576) : g_sl05Edges (n, es) = some (eOk n es, ()) := by
  have hm : maxLen = 9223372036854775807 := by decide
  show f_sl05Edges BIG _ = _
  rw [e_sl05Edges, allLoop es (by omega) (eP n es) false]
  · unfold eOk
    split <;> rfl
  · intro self i y hy
    have hi := (List.getElem?_eq_some_iff.1 hy).1
    simp only [show ((i : Int) < (es.length : Int)) from by omega, decide_true, cond_true]
    rw [bnd_nat hi, hy, Option.bind_some, h_sEdgeOk, wr1 (by omega)]
    cases i with
    | zero =>
      rw [eP_0 hy]
      cases edB n y <;> simp
    | succ j =>
      have hj : es[j]? = some (es[j]'(by omega)) := List.getElem?_eq_getElem (by omega)
      rw [eP_s hy hj, show (((j + 1 : Nat) : Int) - 1) = (j : Int) from by omega, wr (n := (j : Int)) (by omega) (by omega)]
      cases hb : edB n y with
      | false => simp
      | true =>
        simp only [Option.bind_some, Bool.not_true, cond_false, show (0 : Int) < ((j + 1 : Nat) : Int) from by omega, decide_true, cond_true, Bool.true_and]
        rw [bnd_nat (by omega), hj]
        simp only [Option.bind_some]
        rw [bnd_nat hi, hy]
        simp only [Option.bind_some, h_sl05Less]
        cases lsB _ y <;> rfl
  · intro self
    simp
def lbP (l : List Int) (i : Nat) : Bool := match l[i]? with
  | some y => inB y 0 i && (match l[y.toNat]? with
    | some z => decide (z = y)
    | none => false)
  | none => false
def lbOk (n : Int) (l : List Int) : Bool := if (l.length : Int) = n then (if ∀ i, i < l.length → lbP l i = true then true else false) else false
theorem lsB_irrefl (x : Ed) : lsB x x = false := by simp [lsB]
theorem lsB_iff (x y : Ed) : lsB x y = true ↔ x.1 < y.1 ∨ (x.1 = y.1 ∧ x.2 < y.2) := by simp [lsB]
theorem lsB_trans {x y z : Ed} (h : lsB x y = true) (h' : lsB y z = true) : lsB x z = true := by
  rw [lsB_iff] at *; omega
theorem lsB_tri {x y : Ed} (h : lsB x y = false) (h' : lsB y x = false) : x = y := by
  have h1 : ¬ lsB x y = true := by simp [h]
  have h2 : ¬ lsB y x = true := by simp [h']
  rw [lsB_iff] at h1 h2
  exact Prod.ext (by omega) (by omega)
theorem lsB_asymm {x y : Ed} (h : lsB x y = true) : lsB y x = false := by
  cases h' : lsB y x with
  | false => rfl
  | true => have := lsB_trans h h'; rw [lsB_irrefl] at this; cases this
abbrev Srt (l : List Ed) : Prop := l.Pairwise (fun x y => lsB x y = true)
theorem srt_eq : ∀ {a b : List Ed}, Srt a → Srt b → (∀ x, x ∈ a ↔ x ∈ b) → a = b
  | [], [], _, _, _ => rfl
  | [], y :: b, _, _, h => absurd ((h y).2 (by simp)) (by simp)
  | x :: a, [], _, _, h => absurd ((h x).1 (by simp)) (by simp)
  | x :: a, y :: b, ha, hb, h => by
    rw [Srt, List.pairwise_cons] at ha hb
    have hxy : x = y := by
      have h1 := (h x).1 (by simp)
      have h2 := (h y).2 (by simp)
      rcases List.mem_cons.1 h1 with h1 | h1
      · exact h1
      · rcases List.mem_cons.1 h2 with h2 | h2
        · exact h2.symm
        · have k1 := hb.1 x h1
          have k2 := ha.1 y h2
          rw [lsB_asymm k1] at k2; cases k2
    subst hxy
    congr 1
    refine srt_eq ha.2 hb.2 fun z => ⟨fun hz => ?_, fun hz => ?_⟩
    · rcases List.mem_cons.1 ((h z).1 (by simp [hz])) with h1 | h1
      · subst h1; have := ha.1 z hz; rw [lsB_irrefl] at this; cases this
      · exact h1
    · rcases List.mem_cons.1 ((h z).2 (by simp [hz])) with h1 | h1
      · subst h1; have := hb.1 z hz; rw [lsB_irrefl] at this; cases this
      · exact h1
def ins (l : List Ed) (e : Ed) : List Ed := l.filter (fun y => lsB y e) ++ [e] ++ l.filter (fun y => lsB e y)
theorem ins_mem {l : List Ed} {e x : Ed} : x ∈ ins l e ↔ x = e ∨ x ∈ l := by
  simp only [ins, List.mem_append, List.mem_filter, List.mem_singleton]
  constructor
  · rintro ((h | h) | h)
    · exact .inr h.1
    · exact .inl h
    · exact .inr h.1
  · rintro (h | h)
    · exact .inl (.inr h)
    · cases h1 : lsB x e with
      | true => exact .inl (.inl ⟨h, rfl⟩)
      | false =>
        cases h2 : lsB e x with
        | true => exact .inr ⟨h, rfl⟩
        | false => exact .inl (.inr (lsB_tri h1 h2))
theorem ins_srt {l : List Ed} {e : Ed} (h : Srt l) : Srt (ins l e) := by
  simp only [ins, Srt, List.append_assoc, List.pairwise_append, List.singleton_append, List.pairwise_cons]
  refine ⟨h.filter _, ⟨fun y hy => (List.mem_filter.1 hy).2, h.filter _⟩, fun x hx y hy => ?_⟩
  have h1 := (List.mem_filter.1 hx).2
  rcases List.mem_cons.1 hy with hy | hy
  · subst hy; exact h1
  · exact lsB_trans h1 (List.mem_filter.1 hy).2
theorem filter_two_len (e : Ed) : ∀ l : List Ed, (l.filter (fun y => lsB y e)).length + (l.filter (fun y => lsB e y)).length ≤ l.length
  | [] => by simp
  | y :: l => by
    have := filter_two_len e l
    simp only [List.filter_cons]
    cases h1 : lsB y e <;> cases h2 : lsB e y <;> simp
    · omega
    · omega
    · omega
    · rw [lsB_asymm h1] at h2; cases h2
theorem ins_len (l : List Ed) (e : Ed) : (ins l e).length ≤ l.length + 1 := by
  have := filter_two_len e l
  simp only [ins, List.length_append, List.length_singleton]
  omega
/-- How many of the first ones are ahead of it. -/
def fdI : List Ed → Ed → Nat
  | [], _ => 0
  | y :: l, e => if lsB y e then fdI l e + 1 else 0
theorem fdI_ins {l : List Ed} {e : Ed} (h : Srt l) (hne : e ∉ l) : l.take (fdI l e) ++ [e] ++ l.drop (fdI l e) = ins l e := by
  induction l with
  | nil => rfl
  | cons y l ih =>
    rw [Srt, List.pairwise_cons] at h
    have ih := ih h.2 (fun hh => hne (by simp [hh]))
    cases h1 : lsB y e with
    | true =>
      have h2 := lsB_asymm h1
      simp only [fdI, h1, if_true, List.take_succ_cons, List.drop_succ_cons, List.cons_append, ih]
      simp only [ins, List.filter_cons, h1, h2, if_true, List.cons_append]
      simp
    | false =>
      have h2 : lsB e y = true := by
        cases h2 : lsB e y with
        | true => rfl
        | false => exact absurd (lsB_tri h1 h2).symm (fun hh => hne (by simp [hh]))
      have h3 : ∀ z, z ∈ l → lsB z e = false ∧ lsB e z = true := fun z hz => by
        have := lsB_trans h2 (h.1 z hz)
        exact ⟨lsB_asymm this, this⟩
      have f1 : l.filter (fun y => lsB y e) = [] := by
        rw [List.filter_eq_nil_iff]; intro z hz; simp [(h3 z hz).1]
      have f2 : l.filter (fun y => lsB e y) = l := by
        rw [List.filter_eq_self]; intro z hz; exact (h3 z hz).2
      simp only [fdI, h1, ins, List.filter_cons, h2, if_true, f1, f2]
      simp
theorem h_sl05Has (l : List Ed) (e : Ed) (hl : l.length ≤ maxLen) : g_sl05Has (l, e) = some (decide (e ∈ l), ()) := by
  show f_sl05Has BIG _ = _
  rw [e_sl05Has, allLoop l (Nat.lt_of_le_of_lt hl maxLen_lt) (fun i => decide (l[i]? ≠ some e)) true (fun self i y hy => by
      have hi := (List.getElem?_eq_some_iff.1 hy).1
      simp only [show ((i : Int) < (l.length : Int)) from by omega, decide_true, cond_true]
      rw [bnd_nat hi, hy, Option.bind_some, wr1 (by omega)]
      obtain ⟨y1, y2⟩ := y
      obtain ⟨e1, e2⟩ := e
      by_cases h1 : y1 = e1 <;> by_cases h2 : y2 = e2 <;> simp [h1, h2]) (fun self => by simp)]
  by_cases h : e ∈ l
  · rw [if_neg, decide_eq_true h]
    · rfl
    · intro hh
      obtain ⟨i, hi⟩ := List.getElem?_of_mem h
      have := hh i (List.getElem?_eq_some_iff.1 hi).1
      rw [decide_eq_true_eq] at this
      exact this hi
  · rw [if_pos, decide_eq_false h]
    · rfl
    · intro i hi
      rw [decide_eq_true_eq]
      exact fun hh => h (List.mem_of_getElem? hh)
theorem h_ihasEdge (l : List Ed) (e : Ed) (hl : l.length ≤ maxLen) : g_ihasEdge (l, e) = some (decide (e ∈ l), ()) := by
  rw [← h_sl05Has l e hl]
  show f_ihasEdge BIG _ = f_sl05Has BIG _
  rw [e_ihasEdge, e_sl05Has]
  all_goals rfl
theorem h_sl05Put (l : List Ed) (e : Ed) (hl : l.length ≤ 1048576) : g_sl05Put (l, e) = some (ins l e, ()) := by
  have hm : maxLen = 9223372036854775807 := by decide
  show f_sl05Put BIG _ = _
  rw [e_sl05Put, foldLoop l (by omega) (fun i (c : List Ed) => c.length ≤ i) (fun c y => if lsB y e then c ++ [y] else c) id (by simp) (fun i c y _ (h : c.length ≤ i) => by show List.length (if _ then _ else _) ≤ _; split <;> (try simp) <;> omega)]
  · rw [foldl_filter]
    simp only [id, List.nil_append, Option.bind_some]
    have h1 := List.length_filter_le (fun y => lsB y e) l
    rw [decide_eq_true (by simp; omega), cond_true, foldLoop l (by omega) (fun i (c : List Ed) => c.length ≤ l.length + 1 + i) (fun c y => if lsB e y then c ++ [y] else c) id (by simp; omega) (fun i c y _ (h : c.length ≤ _) => by show List.length (if _ then _ else _) ≤ _; split <;> (try simp) <;> omega)]
    · rw [foldl_filter]; rfl
    · intro self c i y hy (hc : c.length ≤ _)
      have hi := (List.getElem?_eq_some_iff.1 hy).1
      simp only [show ((i : Int) < (l.length : Int)) from by omega, decide_true, cond_true]
      simp only [bnd_nat hi, hy, Option.bind_some, h_sl05Less, wr1 (show i < maxLen from by omega)]
      cases lsB e y with
      | false => simp
      | true => simp [show c.length + 1 ≤ 4294967296 from by omega]
    · intro self c hc
      simp
  · intro self c i y hy (hc : c.length ≤ i)
    have hi := (List.getElem?_eq_some_iff.1 hy).1
    simp only [show ((i : Int) < (l.length : Int)) from by omega, decide_true, cond_true]
    simp only [bnd_nat hi, hy, Option.bind_some, h_sl05Less, wr1 (show i < maxLen from by omega)]
    cases lsB y e with
    | false => simp
    | true => simp [show c.length + 1 ≤ 4294967296 from by omega]
  · intro self c hc
    simp
theorem fdI_le : ∀ (l : List Ed) (e : Ed), fdI l e ≤ l.length
  | [], _ => by simp [fdI]
  | y :: l, e => by
    have := fdI_le l e
    simp only [fdI, List.length_cons]
    split <;> omega
theorem fdI_at : ∀ {l : List Ed} {e y : Ed} {i : Nat}, i ≤ fdI l e → l[i]? = some y → lsB y e = decide (i < fdI l e)
  | [], _, _, _, _, hy => by simp at hy
  | z :: l, e, y, i, hi, hy => by
    cases hz : lsB z e with
    | false =>
      simp only [fdI, hz] at hi ⊢
      have : i = 0 := by simpa using hi
      subst this
      simp only [List.getElem?_cons_zero, Option.some.injEq] at hy
      subst hy
      simp [hz]
    | true =>
      simp only [fdI, hz, if_true] at hi ⊢
      cases i with
      | zero =>
        simp only [List.getElem?_cons_zero, Option.some.injEq] at hy
        subst hy
        simp [hz]
      | succ i =>
        simp only [List.getElem?_cons_succ] at hy
        rw [fdI_at (by omega) hy]
        simp
theorem h_iwithEdge (l : List Ed) (e : Ed) (hl : l.length ≤ 1048576) : g_iwithEdge (l, e) = some (l.take (fdI l e) ++ [e] ++ l.drop (fdI l e), ()) := by
  have hm : maxLen = 9223372036854775807 := by decide
  have hle := fdI_le l e
  show f_iwithEdge BIG _ = _
  rw [e_iwithEdge, loop_eq (fun (x : Int) => ∃ i : Nat, x = i ∧ i ≤ fdI l e) (fun (x : Int) => l.length - x.toNat) (fun _ => ((fdI l e : Nat) : Int)) (fun self x ⟨i, h1, h2⟩ hs => by
    subst h1
    by_cases hi : i < l.length
    · have hy := List.getElem?_eq_getElem hi
      have hat := fdI_at h2 hy
      simp only [show ((i : Int) < (l.length : Int)) from by omega, decide_true, cond_true]
      simp only [bnd_nat hi, hy, Option.bind_some, h_iahead, wr1 (show i < maxLen from by omega), hat]
      by_cases hlt : i < fdI l e
      · rw [decide_eq_true hlt, cond_true]
        exact hs _ ⟨i + 1, rfl, hlt⟩ (by simp; omega)
      · rw [decide_eq_false hlt, cond_false]
        have : i = fdI l e := by omega
        rw [← this]
    · have : i = l.length := by omega
      have h3 : fdI l e = i := by omega
      rw [h3, this]
      simp) (n := BIG) (x := 0) (by simp [BIG]; omega) ⟨0, rfl, by omega⟩]
  simp only [Option.bind_some, Int.toNat_natCast, Nat.sub_zero, List.drop_zero]
  rw [decide_eq_true (by omega), cond_true, decide_eq_true (by omega), cond_true, decide_eq_true (by simp; omega), cond_true, decide_eq_true (by simp; omega), cond_true, cond_true, decide_eq_true (by omega), cond_true, decide_eq_true (by simp; omega), cond_true]
  congr 3
  rw [List.take_of_length_le]
  simp
/-- A walk that may fail. -/
def fM {S α : Type} (st : S → α → Option S) : S → List α → Option S
  | s, [] => some s
  | s, y :: l => (st s y).bind fun s' => fM st s' l
theorem exitLoop {α S B : Type} (a : List α) (hl : a.length < 18446744073709551616) {F : (S × Int → Option (S ⊕ B)) → S × Int → Option (S ⊕ B)} (I : Nat → S → Prop) (st : S → α → Option S) (b : B) {s0 : S} (h0 : I 0 s0)
    (hI : ∀ i s y s', a[i]? = some y → I i s → st s y = some s' → I (i + 1) s')
    (hF : ∀ self s (i : Nat) y, a[i]? = some y → I i s → F self (s, (i : Int)) = match st s y with
      | some s' => self (s', ((i + 1 : Nat) : Int))
      | none => some (.inr b))
    (hE : ∀ self s, I a.length s → F self (s, (a.length : Int)) = some (.inl s)) : loopT BIG F (s0, 0) = some (match fM st s0 a with
      | some s => .inl s
      | none => .inr b) := by
  have := loop_eq (F := F) (fun x => ∃ i : Nat, x.2 = i ∧ i ≤ a.length ∧ I i x.1) (fun x => a.length - x.2.toNat) (fun x => match fM st x.1 (a.drop x.2.toNat) with
      | some s => .inl s
      | none => .inr b) (fun self x ⟨i, h1, h2, h3⟩ hs => ?_) (n := BIG) (x := (s0, 0)) (by simp; exact hl) ⟨0, rfl, by simp, h0⟩
  · simpa using this
  · obtain ⟨s, j⟩ := x
    simp only at h1 h2 h3
    subst h1
    by_cases hi : i < a.length
    · have hy := List.getElem?_eq_getElem hi
      rw [hF self s i a[i] hy h3]
      simp only [Int.toNat_natCast]
      rw [List.drop_eq_getElem_cons hi]
      simp only [fM]
      cases hst : st s a[i] with
      | none => rfl
      | some s' =>
        simp only [Option.bind_some]
        rw [hs _ ⟨i + 1, rfl, hi, hI _ _ _ _ hy h3 hst⟩ (by simp; omega)]
        simp
    · have : i = a.length := by omega
      subst this
      rw [hE self s h3]
      simp [fM]
theorem fM_flat {S α : Type} (st : S → α → Option S) : ∀ (l : List (List α)) (s : S), fM st s l.flatten = fM (fun s y => fM st s y) s l
  | [], s => rfl
  | y :: l, s => by
    have app : ∀ (a b : List α) (s : S), fM st s (a ++ b) = (fM st s a).bind fun s' => fM st s' b := by
      intro a b
      induction a with
      | nil => intro s; rfl
      | cons x a ih =>
        intro s
        simp only [List.cons_append, fM, ih, Option.bind_assoc]
    simp only [List.flatten_cons, app, fM]
    congr 1
    funext s'
    exact fM_flat st l s'
def stE (out : List Ed) (e : Ed) : Option (List Ed) := if e ∈ out then none else some (ins out e)
theorem stE_some {out s' : List Ed} {e : Ed} (h : stE out e = some s') : e ∉ out ∧ s' = ins out e := by
  unfold stE at h
  split at h
  · cases h
  · cases h; exact ⟨by assumption, rfl⟩
theorem fM_some : ∀ {A s s' : List Ed}, fM stE s A = some s' → A.Nodup ∧ (∀ x, x ∈ A → x ∉ s) ∧ (∀ x, x ∈ s' ↔ x ∈ s ∨ x ∈ A) ∧ (Srt s → Srt s') ∧ s'.length ≤ s.length + A.length
  | [], s, s', h => by
    simp only [fM, Option.some.injEq] at h
    subst h
    exact ⟨List.nodup_nil, by simp, by simp, id, by simp⟩
  | e :: A, s, s', h => by
    simp only [fM, Option.bind_eq_some_iff] at h
    obtain ⟨s1, h1, h2⟩ := h
    obtain ⟨hne, rfl⟩ := stE_some h1
    obtain ⟨k1, k2, k3, k4, k5⟩ := fM_some h2
    refine ⟨List.nodup_cons.2 ⟨fun hh => k2 e hh (ins_mem.2 (.inl rfl)), k1⟩, fun x hx => ?_, fun x => ?_, fun hs => k4 (ins_srt hs), ?_⟩
    · rcases List.mem_cons.1 hx with rfl | hx
      · exact hne
      · exact fun hh => k2 x hx (ins_mem.2 (.inr hh))
    · rw [k3, ins_mem, List.mem_cons]
      constructor
      · rintro ((h | h) | h)
        · exact .inr (.inl h)
        · exact .inl h
        · exact .inr (.inr h)
      · rintro (h | h | h)
        · exact .inl (.inr h)
        · exact .inl (.inl h)
        · exact .inr h
    · have := ins_len s e
      simp only [List.length_cons]
      omega
theorem fM_ok : ∀ {A s : List Ed}, A.Nodup → (∀ x, x ∈ A → x ∉ s) → ∃ s', fM stE s A = some s'
  | [], s, _, _ => ⟨s, rfl⟩
  | e :: A, s, h, h' => by
    have hn := List.nodup_cons.1 h
    have h1 : stE s e = some (ins s e) := by unfold stE; rw [if_neg (h' e (by simp))]
    obtain ⟨s', hs⟩ := fM_ok (A := A) (s := ins s e) hn.2 fun x hx hh => by
      rcases ins_mem.1 hh with rfl | hh
      · exact hn.1 hx
      · exact h' x (by simp [hx]) hh
    exact ⟨s', by simp only [fM, h1, Option.bind_some]; exact hs⟩
theorem fM_perm {A B : List Ed} (h : A.Perm B) : fM stE [] A = fM stE [] B := by
  cases hA : fM stE [] A with
  | some s =>
    obtain ⟨k1, k2, k3, k4, _⟩ := fM_some hA
    obtain ⟨s', hs⟩ := fM_ok (A := B) (s := []) (h.nodup_iff.1 k1) (by simp)
    obtain ⟨_, _, m3, m4, _⟩ := fM_some hs
    rw [hs, srt_eq (k4 List.Pairwise.nil) (m4 List.Pairwise.nil) fun x => by rw [k3, m3, h.mem_iff]]
  | none =>
    cases hB : fM stE [] B with
    | none => rfl
    | some s =>
      obtain ⟨k1, _⟩ := fM_some hB
      obtain ⟨s', hs⟩ := fM_ok (A := A) (s := []) (h.nodup_iff.2 k1) (by simp)
      rw [hs] at hA; cases hA
def resW (o : Option (List Ed)) : List Ed × Bool := match o with
  | some s => (s, true)
  | none => ([], false)
abbrev LL := List (List (Int × Int))
theorem flat_take {a : LL} {i : Nat} {y : List Ed} (hy : a[i]? = some y) : (a.take (i + 1)).flatten.length = (a.take i).flatten.length + y.length := by
  have hi := (List.getElem?_eq_some_iff.1 hy).1
  have hv := (List.getElem?_eq_some_iff.1 hy).2
  rw [List.take_succ_eq_append_getElem hi, List.flatten_append, List.length_append, hv]
  simp
theorem flat_take_le (a : LL) (i : Nat) : (a.take i).flatten.length ≤ a.flatten.length := by
  have := congrArg List.length (congrArg List.flatten (List.take_append_drop i a))
  rw [List.flatten_append, List.length_append] at this
  omega
theorem h_iWholeEdges (a : LL) (c : List Ed) (hl : a.length ≤ 1048576) (ht : c.length + a.flatten.length ≤ 1048576) : g_iWholeEdges (a, c) = some (resW (fM stE [] (c ++ a.flatten)), ()) := by
  have hm : maxLen = 9223372036854775807 := by decide
  have hp : fM stE [] (c ++ a.flatten) = fM stE [] (a ++ [c]).flatten := by
    refine fM_perm ?_
    rw [List.flatten_append]
    simp only [List.flatten_cons, List.flatten_nil, List.append_nil]
    exact List.perm_append_comm
  rw [hp]
  have htt : (a ++ [c]).flatten.length ≤ 1048576 := by rw [List.flatten_append, List.length_append]; simp only [List.flatten_cons, List.flatten_nil, List.append_nil]; omega
  have hll : (a ++ [c]).length ≤ 1048577 := by simp; omega
  show f_iWholeEdges BIG _ = _
  rw [e_iWholeEdges, decide_eq_true (by omega), cond_true, decide_eq_true (by simp; omega), cond_true]
  generalize a ++ [c] = b at *
  rw [exitLoop b (by omega) (fun i (s : List Ed) => s.length ≤ (b.take i).flatten.length ∧ Srt s) (fun s y => fM stE s y) (([], false) : List Ed × Bool) ⟨by simp, List.Pairwise.nil⟩ (fun i s y s' hy h hs => by
      obtain ⟨_, _, _, h4, h5⟩ := fM_some hs
      exact ⟨by rw [flat_take hy]; have := h.1; omega, h4 h.2⟩)]
  · rw [← fM_flat]
    cases fM stE [] b.flatten <;> rfl
  · intro self s i y hy ⟨hs, hsrt⟩
    have hi := (List.getElem?_eq_some_iff.1 hy).1
    have h1 := flat_take hy
    have h2 := flat_take_le b (i + 1)
    simp only [show ((i : Int) < (b.length : Int)) from by omega, decide_true, cond_true]
    rw [bnd_nat hi, hy, Option.bind_some, wr1 (by omega), exitLoop y (by omega) (fun k (u : List Ed) => u.length ≤ s.length + k ∧ Srt u) stE (([], false) : List Ed × Bool) ⟨by simp, hsrt⟩ (fun k u z u' hz h hu => by
      obtain ⟨_, rfl⟩ := stE_some hu
      have := ins_len u z
      exact ⟨by have := h.1; omega, ins_srt h.2⟩)]
    · cases fM stE s y <;> rfl
    · intro self2 u k z hz ⟨hu, husrt⟩
      have hk := (List.getElem?_eq_some_iff.1 hz).1
      simp only [show ((k : Int) < (y.length : Int)) from by omega, decide_true, cond_true]
      rw [bnd_nat hk, hz, Option.bind_some, wr1 (by omega)]
      simp only [h_ihasEdge u z (by omega), h_iwithEdge u z (by omega), Option.bind_some]
      unfold stE
      by_cases h : z ∈ u
      · simp [h]
      · rw [decide_eq_false h, cond_false, if_neg h, fdI_ins husrt h]
    · intro self2 u hu
      simp
  · intro self s hs
    simp
theorem and255 (n : Int) : bits .and .i64 n 255 = n % 256 := by
  have h255 : (BitVec.ofInt 64 255).toNat = 2 ^ 8 - 1 := by decide
  have key : (BitVec.ofInt 64 n &&& BitVec.ofInt 64 255).toNat = (n % ((2 ^ 64 : Nat) : Int)).toNat % 2 ^ 8 := by
    rw [BitVec.toNat_and, BitVec.toNat_ofInt, h255, Nat.and_two_pow_sub_one_eq_mod]
  show IntKind.i64.wrap ((BitVec.ofInt 64 n &&& BitVec.ofInt 64 255).toNat : Nat) = n % 256
  rw [key, IntKind.wrap_i64]
  omega
abbrev Cur := List Int × Int × Int
def curOk (c : Cur) : Prop := c.1.length ≤ 1048576 ∧ 0 ≤ c.2.1 ∧ c.2.1 ≤ c.1.length
theorem h_sl01Byte (c : Cur) (hc : curOk c) : ∃ r c', g_sl01Byte c = some (r, c') ∧ curOk c' ∧ 0 ≤ r ∧ r ≤ 255 := by
  have e : g_sl01Byte c = f_sl01Byte BIG c := rfl
  obtain ⟨h1, h2, h3⟩ := hc
  rw [e, e_sl01Byte, decide_eq_false (by decide), cond_false, decide_eq_false (by decide), cond_false]
  simp only [and255]
  by_cases h : c.2.1 < c.1.length
  · rw [decide_eq_true h, cond_true, bnd_ok h2 h, List.getElem?_eq_getElem (by omega), Option.bind_some, Option.bind_some]
    refine ⟨_, _, rfl, ⟨h1, ?_, ?_⟩, Int.emod_nonneg _ (by decide), by omega⟩
    · show 0 ≤ IntKind.wrap .i64 (c.2.1 + 1)
      rw [wr (by omega) (by omega)]; omega
    · show IntKind.wrap .i64 (c.2.1 + 1) ≤ _
      rw [wr (by omega) (by omega)]
      show c.2.1 + 1 ≤ (c.1.length : Int)
      omega
  · rw [decide_eq_false h, cond_false, Option.bind_some]
    exact ⟨_, _, rfl, ⟨h1, h2, h3⟩, Int.emod_nonneg _ (by decide), by omega⟩
theorem h_sl01Below (c : Cur) (n : Int) (hc : curOk c) (hn : n ≤ 1000000) : ∃ r c', g_sl01Below (c, n) = some (r, c') ∧ curOk c' ∧ 0 ≤ r ∧ (0 < n → r < n) ∧ (n ≤ 0 → r = 0) := by
  have e : g_sl01Below (c, n) = f_sl01Below BIG (c, n) := rfl
  rw [e, e_sl01Below]
  by_cases h0 : n ≤ 0
  · rw [decide_eq_true h0]; exact ⟨0, c, rfl, hc, by omega, by omega, fun _ => rfl⟩
  · rw [decide_eq_false h0, cond_false]
    obtain ⟨r1, c1, k1, o1, a1, b1⟩ := h_sl01Byte c hc
    by_cases h1 : n ≤ 256
    · rw [decide_eq_true h1, cond_true, k1, Option.bind_some, decide_eq_false (by omega), cond_false]
      refine ⟨_, _, rfl, o1, Int.tmod_nonneg _ a1, fun _ => ?_, by omega⟩
      show Int.tmod r1 n < n
      exact Int.tmod_lt_of_pos _ (by omega)
    · rw [decide_eq_false h1, cond_false, k1, Option.bind_some]
      obtain ⟨r2, c2, k2, o2, a2, b2⟩ := h_sl01Byte c1 o1
      obtain ⟨r3, c3, k3, o3, a3, b3⟩ := h_sl01Byte c2 o2
      obtain ⟨r4, c4, k4, o4, a4, b4⟩ := h_sl01Byte c3 o3
      simp only [k2, k3, k4, Option.bind_some]
      rw [decide_eq_false (by omega), cond_false]
      refine ⟨_, _, rfl, o4, ?_, fun _ => Int.tmod_lt_of_pos _ (by omega), by omega⟩
      refine Int.tmod_nonneg _ ?_
      rw [wr (n := r1 * 16777216) (by omega) (by omega), wr (n := r2 * 65536) (by omega) (by omega), wr (n := r3 * 256) (by omega) (by omega), wr (n := r1 * 16777216 + r2 * 65536) (by omega) (by omega), wr (n := r1 * 16777216 + r2 * 65536 + r3 * 256) (by omega) (by omega), wr (by omega) (by omega)]
      omega
theorem h_sl05Edge (c : Cur) (n : Int) (hc : curOk c) (hn : 2 ≤ n) (hn' : n ≤ 12) : ∃ e c', g_sl05Edge (c, n) = some (e, c') ∧ curOk c' ∧ edB n e = true := by
  have e : g_sl05Edge (c, n) = f_sl05Edge BIG (c, n) := rfl
  rw [e, e_sl05Edge]
  obtain ⟨r0, c0, k0, o0, a0, b0, _⟩ := h_sl01Below c n hc (by omega)
  obtain ⟨r1, c1, k1, o1, a1, b1, _⟩ := h_sl01Below c0 n o0 (by omega)
  have b0 := b0 (by omega)
  have b1 := b1 (by omega)
  simp only [k0, k1, Option.bind_some]
  have key : ∀ x2 : Int, 0 ≤ x2 → x2 < n → x2 ≠ r0 → ∃ e c', (bif decide (x2 < r0) then some ((x2, r0), c1) else some ((r0, x2), c1)) = some (e, c') ∧ curOk c' ∧ edB n e = true := by
    intro x2 p q hne
    by_cases h : x2 < r0
    · rw [decide_eq_true h]
      refine ⟨_, _, rfl, o1, ?_⟩
      simp only [edB, Bool.and_eq_true, inB_t, decide_eq_true_eq]
      omega
    · rw [decide_eq_false h]
      refine ⟨_, _, rfl, o1, ?_⟩
      simp only [edB, Bool.and_eq_true, inB_t, decide_eq_true_eq]
      omega
  by_cases h : r0 = r1
  · rw [decide_eq_true h, cond_true, decide_eq_false (by omega), cond_false, Option.bind_some, wr (by omega) (by omega)]
    have hm : Int.tmod (r0 + 1) n = if r0 + 1 = n then 0 else r0 + 1 := by
      rw [Int.tmod_eq_emod_of_nonneg (by omega)]
      split
      · rename_i h; rw [h]; exact Int.emod_self
      · exact Int.emod_eq_of_lt (by omega) (by omega)
    rw [hm]
    split
    · exact key 0 (by omega) (by omega) (by omega)
    · exact key _ (by omega) (by omega) (by omega)
  · rw [decide_eq_false h, cond_false, Option.bind_some]
    exact key r1 a1 b1 (fun hh => h hh.symm)
def GrOk (n : Int) (es : List Ed) : Prop := 2 ≤ n ∧ n ≤ 12 ∧ Srt es ∧ (∀ e, e ∈ es → edB n e = true)
theorem eOk_of {n : Int} {es : List Ed} (h : GrOk n es) (hl : es.length ≤ 66) : eOk n es = true := by
  unfold eOk
  rw [if_pos]
  · rw [decide_eq_true_eq]; omega
  · intro i hi
    have hy := List.getElem?_eq_getElem hi
    cases i with
    | zero => rw [eP_0 hy]; exact h.2.2.2 _ (List.getElem_mem _)
    | succ j =>
      have hj := List.getElem?_eq_getElem (show j < es.length by omega)
      rw [eP_s hy hj, h.2.2.2 _ (List.getElem_mem _), Bool.true_and]
      exact List.pairwise_iff_getElem.1 h.2.2.1 j (j + 1) (by omega) (by omega) (by omega)
theorem h_sHasEdge (n : Int) (es : List Ed) (e : Ed) (hl : es.length ≤ maxLen) : g_sHasEdge ((n, es), e) = some (decide (e ∈ es), ()) := by
  show f_sHasEdge BIG _ = _
  rw [e_sHasEdge, h_sl05Has _ _ hl]; rfl
theorem h_sl05Graph (c : Cur) (hc : curOk c) : ∃ n es c', g_sl05Graph c = some ((n, es), c') ∧ curOk c' ∧ GrOk n es ∧ es.length ≤ 16 := by
  have hm : maxLen = 9223372036854775807 := by decide
  have e : g_sl05Graph c = f_sl05Graph BIG c := rfl
  rw [e, e_sl05Graph]
  obtain ⟨r0, c0, k0, o0, a0, b0, _⟩ := h_sl01Below c 11 hc (by omega)
  have b0 := b0 (by omega)
  simp only [k0, Option.bind_some]
  rw [wr (by omega) (by omega)]
  have := loop_rel (F := fun (self2 : (List (Int) × Int × Int) × (Int × List (Int × Int)) × Int → Option ((List (Int) × Int × Int) × (Int × List (Int × Int)))) (x1 : (List (Int) × Int × Int) × (Int × List (Int × Int)) × Int) =>
    Option.bind (g_sl01Below (x1.1, (16 : Int))) fun r3 =>
    bif decide (x1.2.2 < r3.1) then
     Option.bind (Option.bind (g_sl05Edge (r3.2, x1.2.1.1)) fun r4 =>
      Option.bind (g_sHasEdge (x1.2.1, (r4.1.1, r4.1.2))) fun r5 =>
      bif !r5.1 then
       Option.bind (g_sl05Put (x1.2.1.2, (r4.1.1, r4.1.2))) fun r6 =>
       some (r4.2, (x1.2.1.1, r6.1))
      else some (r4.2, x1.2.1) : Option ((List (Int) × Int × Int) × (Int × List (Int × Int)))) fun x7 =>
     self2 (x7.1, x7.2, IntKind.wrap .i64 (x1.2.2 + (1 : Int)))
    else some (r3.2, x1.2.1))
    (fun x => ∃ i : Nat, x.2.2 = i ∧ i ≤ 16 ∧ curOk x.1 ∧ GrOk x.2.1.1 x.2.1.2 ∧ x.2.1.2.length ≤ i) (fun x => 16 - x.2.2.toNat) (fun _ b => curOk b.1 ∧ GrOk b.2.1 b.2.2 ∧ b.2.2.length ≤ 16) (fun self x hx hs => ?_) (n := BIG) (x := (c0, (2 + r0, []), 0)) (by simp [BIG]) ⟨0, rfl, by omega, o0, ⟨by show 2 ≤ 2 + r0; omega, by show 2 + r0 ≤ 12; omega, List.Pairwise.nil, by simp⟩, by simp⟩
  · obtain ⟨b, hb, q1, q2, q3⟩ := this
    rw [hb]
    exact ⟨b.2.1, b.2.2, b.1, rfl, q1, q2, q3⟩
  · obtain ⟨cu, ⟨n, es⟩, iz⟩ := x
    obtain ⟨i, rfl, hi, hcu, hg, hl⟩ := hx
    simp only at hcu hg hl
    obtain ⟨r3, c3, k3, o3, a3, b3, _⟩ := h_sl01Below cu 16 hcu (by omega)
    have b3 := b3 (by omega)
    simp only [k3, Option.bind_some]
    by_cases h : (i : Int) < r3
    · rw [decide_eq_true h, cond_true]
      obtain ⟨e, c4, k4, o4, hed⟩ := h_sl05Edge c3 n o3 hg.1 hg.2.1
      simp only [k4, Option.bind_some]
      rw [h_sHasEdge n es e (by omega), Option.bind_some, wr1 (by omega)]
      by_cases hin : e ∈ es
      · rw [decide_eq_true hin, Bool.not_true, cond_false, Option.bind_some]
        exact hs _ ⟨i + 1, rfl, by omega, o4, hg, by show es.length ≤ _; omega⟩ (by simp; omega)
      · rw [decide_eq_false hin, Bool.not_false, cond_true, h_sl05Put es e (by omega), Option.bind_some, Option.bind_some]
        refine hs _ ⟨i + 1, rfl, by omega, o4, ⟨hg.1, hg.2.1, ins_srt hg.2.2.1, fun x hx => ?_⟩, ?_⟩ (by simp; omega)
        · rcases ins_mem.1 hx with rfl | hx
          · exact hed
          · exact hg.2.2.2 x hx
        · have := ins_len es e
          show (ins es e).length ≤ _
          omega
    · rw [decide_eq_false h, cond_false]
      exact ⟨_, rfl, o3, hg, by show es.length ≤ _; omega⟩
theorem h_sl01New (a : List Int) (ha : a.length ≤ 1048576) : ∃ c, g_sl01New a = some (c, ()) ∧ curOk c := by
  have hm : maxLen = 9223372036854775807 := by decide
  have e : g_sl01New a = f_sl01New BIG a := rfl
  rw [e, e_sl01New]
  have := loop_rel (F := fun (self1 : Int × Int → Option (Int)) (x0 : Int × Int) =>
    Option.bind (bif decide (x0.2 < (a.length : Int)) then
      some (decide (x0.2 < (4000 : Int)))
     else some false : Option (Bool)) fun x2 =>
    bif x2 then
     bnd a.length x0.2 fun n3 =>
     Option.bind a[n3]? fun y4 =>
     self1 (bits .and .i64 (IntKind.wrap .i64 ((IntKind.wrap .i64 ((IntKind.wrap .i64 (x0.1 * (131 : Int))) + (IntKind.wrap .i64 (y4)))) + (7 : Int))) (1073741823 : Int), IntKind.wrap .i64 (x0.2 + (1 : Int)))
    else some x0.1) (fun x => ∃ i : Nat, x.2 = i ∧ i ≤ a.length) (fun x => a.length - x.2.toNat) (fun _ _ => True) (fun self x ⟨i, h1, h2⟩ hs => ?_) (n := BIG) (x := (IntKind.wrap .i64 ((13501 : Int) + (a.length : Int)), 0)) (by simp [BIG]; omega) ⟨0, rfl, by omega⟩
  · obtain ⟨b, hb, _⟩ := this
    rw [hb]
    exact ⟨_, rfl, ha, Int.le_refl _, by simp⟩
  · obtain ⟨z, j⟩ := x
    simp only at h1
    subst h1
    by_cases h : i < a.length
    · by_cases h' : (i : Int) < 4000
      · simp only [show ((i : Int) < (a.length : Int)) from by omega, h', decide_true, cond_true, Option.bind_some]
        rw [bnd_nat h, List.getElem?_eq_getElem h, Option.bind_some, wr1 (by omega)]
        exact hs _ ⟨i + 1, rfl, h⟩ (by simp; omega)
      · simp only [show ((i : Int) < (a.length : Int)) from by omega, h', decide_true, decide_false, cond_true, cond_false, Option.bind_some]
        exact ⟨_, rfl, trivial⟩
    · simp only [show ¬ ((i : Int) < (a.length : Int)) from by omega, decide_false, cond_false, Option.bind_some]
      exact ⟨_, rfl, trivial⟩
theorem h_sDrawRightGraph (a : List Int) (ha : a.length ≤ 1048576) : ∃ n es e, g_sDrawRightGraph a = some ((n, es, e.1, e.2), ()) ∧ GrOk n es ∧ es.length ≤ 16 ∧ edB n e = true := by
  have e : g_sDrawRightGraph a = f_sDrawRightGraph BIG a := rfl
  rw [e, e_sDrawRightGraph]
  obtain ⟨c, k, o⟩ := h_sl01New a ha
  obtain ⟨n, es, c1, k1, o1, g1, l1⟩ := h_sl05Graph c o
  obtain ⟨ed, c2, k2, o2, g2⟩ := h_sl05Edge c1 n o1 g1.1 g1.2.1
  simp only [k, k1, k2, Option.bind_some]
  exact ⟨n, es, ed, rfl, g1, l1, g2⟩
theorem h_lsameEdges (a b : List Ed) (ha : a.length ≤ maxLen) : g_lsameEdges (a, b) = some (decide (a = b), ()) := by
  show f_lsameEdges BIG _ = _
  rw [e_lsameEdges]
  by_cases hl : a.length = b.length
  · rw [decide_eq_true (by omega), Bool.not_true, cond_false, eqLoop a b ha hl false]
    · by_cases h : a = b <;> simp [h]
    · intro self i x y hx hy
      have hi := (List.getElem?_eq_some_iff.1 hx).1
      simp only [show ((i : Int) < (a.length : Int)) from by omega, decide_true, cond_true]
      rw [bnd_nat hi, hx, Option.bind_some, bnd_nat (by omega), hy, Option.bind_some, wr1 (by omega)]
      obtain ⟨x1, x2⟩ := x
      obtain ⟨y1, y2⟩ := y
      by_cases h1 : x1 = y1 <;> by_cases h2 : x2 = y2 <;> simp [h1, h2]
    · intro self
      simp
  · rw [decide_eq_false (by omega), Bool.not_false, cond_true, decide_eq_false (fun h => hl (by rw [h]))]
theorem GrOk.ins {n : Int} {es : List Ed} {e : Ed} (h : GrOk n es) (he : edB n e = true) : GrOk n (ins es e) := ⟨h.1, h.2.1, ins_srt h.2.2.1, fun x hx => by
  rcases ins_mem.1 hx with rfl | hx
  · exact he
  · exact h.2.2.2 x hx⟩
/-- A loop that counts up to a number and keeps an account. -/
theorem rangeLoop {S B : Type} (n : Nat) (hl : n < 18446744073709551616) {F : (S × Int → Option B) → S × Int → Option B} (I : Nat → S → Prop) (st : Nat → S → S) (R : S → B) {s0 : S} (h0 : I 0 s0)
    (hI : ∀ i s, i < n → I i s → I (i + 1) (st i s)) (hF : ∀ self s (i : Nat), i < n → I i s → F self (s, (i : Int)) = self (st i s, ((i + 1 : Nat) : Int)))
    (hE : ∀ self s, I n s → F self (s, (n : Int)) = some (R s)) : loopT BIG F (s0, 0) = some (R ((List.range n).foldl (fun s i => st i s) s0)) := by
  have hr : ∀ {i y : Nat}, (List.range n)[i]? = some y → i < n ∧ y = i := by
    intro i y h
    have hi := (List.getElem?_eq_some_iff.1 h).1
    rw [List.length_range] at hi
    rw [List.getElem?_range hi] at h
    cases h
    exact ⟨hi, rfl⟩
  refine foldLoop (List.range n) (by rw [List.length_range]; exact hl) I (fun s i => st i s) R h0 (fun i s y hy hi => ?_) (fun self s i y hy hi => ?_) (fun self s hs => ?_)
  · obtain ⟨h1, rfl⟩ := hr hy; exact hI _ _ h1 hi
  · obtain ⟨h1, rfl⟩ := hr hy; exact hF _ _ _ h1 hi
  · rw [List.length_range] at hs ⊢; exact hE _ _ hs
theorem fold_snoc {α : Type} (f : Nat → α) (n : Nat) (s : List α) : (List.range n).foldl (fun s i => s ++ [f i]) s = s ++ (List.range n).map f := by
  induction n with
  | zero => simp
  | succ n ih => rw [List.range_succ, List.foldl_append, ih]; simp
theorem lab0Loop (n : Nat) (hn : n ≤ 1000000) {F : (List Int × Int → Option (List Int)) → List Int × Int → Option (List Int)}
    (hF : ∀ self out (i : Nat), i < n → out.length = i → F self (out, (i : Int)) = self (out ++ [(i : Int)], ((i + 1 : Nat) : Int)))
    (hE : ∀ self out, F self (out, (n : Int)) = some out) : loopT BIG F ([], 0) = some (lab0 n) := by
  rw [rangeLoop n (by omega) (fun i (s : List Int) => s.length = i) (fun i s => s ++ [(i : Int)]) id rfl (fun i s _ h => by simp [h]) (fun self s i hi h => hF self s i hi h) (fun self s _ => hE self s), fold_snoc]
  rfl
theorem h_ifirst (n : Nat) (hn : n ≤ 1000000) : g_ifirst (n : Int) = some (lab0 n, ()) := by
  have hm : maxLen = 9223372036854775807 := by decide
  show f_ifirst BIG _ = _
  rw [e_ifirst, lab0Loop n hn]
  · rfl
  · intro self out i hi hl
    simp only [show ((i : Int) < (n : Int)) from by omega, decide_true, cond_true]
    rw [decide_eq_true (by simp; omega), cond_true, wr1 (by omega)]
  · intro self out
    simp
theorem lrnds_fold (E : List (Int × Int)) (n : Nat) : ∀ l : List Int, (List.range n).foldl (fun s _ => lrnd E s) l = lrnds E n l := by
  have : ∀ (m : Nat) (l : List Int), lrnds E (m + 1) l = lrnd E (lrnds E m l) := by
    intro m
    induction m with
    | zero => intro l; rfl
    | succ m ih => intro l; show lrnds E (m + 1) (lrnd E l) = _; rw [ih]; rfl
  induction n with
  | zero => intro l; rfl
  | succ n ih => intro l; rw [List.range_succ, List.foldl_append, ih, this]; rfl
theorem h_sl05Labels (n : Nat) (E : List (Int × Int)) (hn : n ≤ 12) (hE : EIn n E) (hl : E.length ≤ 4611686018427387904) : g_sl05Labels ((n : Int), E) = some (labs n E, ()) := by
  have hm : maxLen = 9223372036854775807 := by decide
  show f_sl05Labels BIG _ = _
  rw [e_sl05Labels, lab0Loop n (by omega)]
  · rw [Option.bind_some, rangeLoop n (by omega) (fun i (s : List Int) => s.length = n) (fun _ s => lrnd E s) id (lab0_len n) (fun i s _ h => by rw [lrnd_len]; exact h)]
    · rw [lrnds_fold, lrnds_labs hE]; rfl
    · intro self s i hi hs
      simp only [show ((i : Int) < (n : Int)) from by omega, decide_true, cond_true]
      rw [foldLoop E (by omega) (fun _ (s : List Int) => s.length = n) rlE id hs (fun i s y _ h => by rw [rlE_len]; exact h)]
      · rw [Option.bind_some, wr1 (by omega)]; rfl
      · intro self s i y hy hs
        have hi := (List.getElem?_eq_some_iff.1 hy).1
        obtain ⟨h1, h2, h3, h4⟩ := hE y (List.mem_of_getElem? hy)
        have i1 : y.1.toNat < s.length := by omega
        have i2 : y.2.toNat < s.length := by omega
        simp only [show ((i : Int) < (E.length : Int)) from by omega, decide_true, cond_true]
        rw [wr1 (by omega), bnd_nat hi, hy, Option.bind_some, bnd_ok h1 (by omega), getD_at i1, Option.bind_some, bnd_nat hi, hy, Option.bind_some, bnd_ok h3 (by omega), getD_at i2, Option.bind_some]
        unfold rlE
        simp only
        by_cases c1 : s.getD y.1.toNat 0 < s.getD y.2.toNat 0
        · rw [decide_eq_true c1, cond_true, bnd_nat hi, hy, Option.bind_some, bnd_ok h3 (by omega), getD_at i2, Option.bind_some, Option.bind_some, decide_eq_false (by omega), cond_false, if_pos c1, if_neg (by omega)]
          rfl
        · rw [decide_eq_false c1, cond_false, Option.bind_some, if_neg c1]
          by_cases c2 : s.getD y.2.toNat 0 < s.getD y.1.toNat 0
          · rw [decide_eq_true c2, cond_true, bnd_nat hi, hy, Option.bind_some, bnd_ok h1 (by omega), getD_at i1, Option.bind_some, if_pos c2]
            rfl
          · rw [decide_eq_false c2, cond_false, if_neg c2]
            rfl
      · intro self s _
        simp
    · intro self s _
      simp
  · intro self out i hi hl
    simp only [show ((i : Int) < (n : Int)) from by omega, decide_true, cond_true]
    rw [decide_eq_true (by simp; omega), cond_true, wr1 (by omega)]
  · intro self out
    simp
def grB (n : Int) (es : List Ed) : Bool := inB n 1 12 && eOk n es
theorem w_sGraphOk (n : Int) (es : List Ed) (hl : es.length ≤ 1048576) : g_sGraphOk (n, es) = some (grB n es, ()) := by
  show f_sGraphOk BIG _ = _
  rw [e_sGraphOk, h_sl01In', h_sl05Edges n es hl]
  unfold grB
  cases inB n 1 12 <;> rfl
theorem eOk_srt {n : Int} {es : List Ed} (h : eOk n es = true) : (∀ e, e ∈ es → edB n e = true) ∧ Srt es ∧ es.length ≤ 66 := by
  have hl := eOk_len h
  unfold eOk at h
  split at h
  case isFalse => cases h
  case isTrue hp =>
  have hc : ∀ i (h : i + 1 < es.length), edB n es[i + 1] = true ∧ lsB es[i] es[i + 1] = true := by
    intro i hi
    have := hp (i + 1) hi
    rw [eP_s (List.getElem?_eq_getElem hi) (List.getElem?_eq_getElem (by omega)), Bool.and_eq_true] at this
    exact this
  have h0 : ∀ i (h : i < es.length), edB n es[i] = true := by
    intro i hi
    cases i with
    | zero => have := hp 0 hi; rwa [eP_0 (List.getElem?_eq_getElem hi)] at this
    | succ i => exact (hc i hi).1
  refine ⟨fun e he => ?_, List.pairwise_iff_getElem.2 fun i j hi hj hij => ?_, hl⟩
  · obtain ⟨i, hi, rfl⟩ := List.getElem_of_mem he
    exact h0 i hi
  · have : ∀ d (h : i + 1 + d < es.length), lsB es[i] es[i + 1 + d] = true := by
      intro d
      induction d with
      | zero => intro h; exact (hc i h).2
      | succ d ih => intro h; exact lsB_trans (ih (by omega)) (hc (i + 1 + d) h).2
    have := this (j - (i + 1)) (by omega)
    simpa [show i + 1 + (j - (i + 1)) = j from by omega] using this
theorem edB_in {n : Nat} {e : Ed} (h : edB (n : Int) e = true) : 0 ≤ e.1 ∧ e.1 < n ∧ 0 ≤ e.2 ∧ e.2 < n ∧ e.1 < e.2 := by
  simp only [edB, Bool.and_eq_true, inB_t, decide_eq_true_eq] at h
  omega
theorem eOk_in {n : Nat} {es : List Ed} (h : eOk (n : Int) es = true) : EIn n es := fun e he => by
  have := edB_in ((eOk_srt h).1 e he)
  exact ⟨this.1, this.2.1, this.2.2.1, this.2.2.2.1⟩
/-- A loop that changes each of a row in its place. -/
theorem mapLoop {α : Type} (a : List α) (f : α → α) (hl : a.length < 18446744073709551616) {F : (List α × Int → Option (List α)) → List α × Int → Option (List α)}
    (hF : ∀ self out (i : Nat) y, out.length = a.length → out[i]? = some y → a[i]? = some y → F self (out, (i : Int)) = self (out.set i (f y), ((i + 1 : Nat) : Int)))
    (hE : ∀ self out, out.length = a.length → F self (out, (a.length : Int)) = some out) : loopT BIG F (a, 0) = some (a.map f) := by
  have := loop_eq (F := F) (fun x => ∃ i : Nat, x.2 = i ∧ i ≤ a.length ∧ x.1 = (a.map f).take i ++ a.drop i) (fun x => a.length - x.2.toNat) (fun _ => a.map f) (fun self x ⟨i, h1, h2, h3⟩ hs => ?_) (n := BIG) (x := (a, 0)) (by simp; exact hl) ⟨0, rfl, by simp, by simp⟩
  · exact this
  · obtain ⟨out, j⟩ := x
    simp only at h1 h3
    subst h1
    have hlen : out.length = a.length := by rw [h3]; simp; omega
    by_cases hi : i < a.length
    · have hy := List.getElem?_eq_getElem hi
      have ho : out[i]? = some a[i] := by
        rw [h3, List.getElem?_append_right (by simp; omega)]
        simp [Nat.min_eq_left (show i ≤ a.length from by omega)]
      rw [hF self out i a[i] hlen ho hy]
      have e := set_take_drop (a := a) (t := a.map f) (i := i) (z := f a[i]) (by simp) hi (by simp [hi])
      rw [← h3] at e
      exact hs _ ⟨i + 1, rfl, hi, e⟩ (by simp; omega)
    · have : i = a.length := by omega
      subst this
      rw [hE self out hlen, h3]
      simp [List.take_of_length_le]
theorem set_self {α : Type} {l : List α} {i : Nat} {y : α} (h : l[i]? = some y) : l.set i y = l := by
  apply List.ext_getElem?
  intro j
  rw [List.getElem?_set]
  split
  · subst j
    have := (List.getElem?_eq_some_iff.1 h).1
    simp [this, h.symm]
  · rfl
theorem h_iunion (l : List Int) (a b : Int) (ha : 0 ≤ a) (ha' : a < l.length) (hb : 0 ≤ b) (hb' : b < l.length) (hl : l.length ≤ 1048576) :
    g_iunion (l, a, b) = some (!decide (l.getD a.toNat 0 = l.getD b.toNat 0), unE l (a, b)) := by
  have hm : maxLen = 9223372036854775807 := by decide
  show f_iunion BIG _ = _
  rw [e_iunion, bnd_ok ha ha', getD_at (by omega), Option.bind_some, bnd_ok hb hb', getD_at (by omega), Option.bind_some]
  unfold unE
  simp only
  generalize l.getD a.toNat 0 = x
  generalize l.getD b.toNat 0 = y
  by_cases h : x = y
  · subst h
    rw [decide_eq_true rfl, cond_true, unL_same]; rfl
  · rw [decide_eq_false h, cond_false, mapLoop l (fun z => if z = (if y > x then y else x) then (if y < x then y else x) else z) (by omega)]
    · rfl
    · intro self out i z hlo ho hz
      have hi := (List.getElem?_eq_some_iff.1 hz).1
      simp only [show ((i : Int) < (l.length : Int)) from by omega, decide_true, cond_true]
      rw [bnd_nat (by omega), ho, Option.bind_some, wr1 (by omega)]
      by_cases hc : z = (if y > x then y else x)
      · rw [decide_eq_true hc, cond_true, bnd_nat (by omega), ho, Option.bind_some, if_pos hc]; rfl
      · rw [decide_eq_false hc, cond_false, if_neg hc, set_self ho]; rfl
    · intro self out hlo
      simp
theorem h_sLabels (n : Nat) (es : List Ed) (hl : es.length ≤ 1048576) : g_sLabels ((n : Int), es) = some (if grB n es then labs n es else [], ()) := by
  show f_sLabels BIG _ = _
  rw [e_sLabels, w_sGraphOk _ _ hl, Option.bind_some]
  cases hg : grB n es with
  | false => rfl
  | true =>
    simp only [grB, Bool.and_eq_true, inB_t] at hg
    simp only [Bool.not_true, cond_false]
    rw [h_sl05Labels n es (by omega) (eOk_in hg.2) (by omega)]; rfl
/-- A byte of a number. -/
def by8 (n : Int) : UInt8 := UInt8.ofNat (n % 256).toNat
def vF : Nat → Nat → List UInt8
  | 0, v => [by8 (v : Int)]
  | k + 1, v => if v ≤ 127 then [by8 (v : Int)] else by8 ((v % 128 + 128 : Nat) : Int) :: vF k (v / 128)
def vB (v : Nat) : List UInt8 := vF 9 v
def e2 (e : Ed) : List UInt8 := [by8 e.1, by8 e.2]
/-- A number read off bytes, of which it takes so many at most; and how many it took. -/
def dec : Nat → List UInt8 → Option (Nat × Nat)
  | 0, _ => none
  | _ + 1, [] => none
  | k + 1, b :: l => if b.toNat < 128 then some (b.toNat, 1) else (dec k l).map fun r => (b.toNat - 128 + 128 * r.1, r.2 + 1)
/-- What is read there, when it is a number in its own bytes. -/
def rdV (l : List UInt8) : Option (Nat × Nat) := match dec 5 l with
  | some (v, m) => if v ≤ 1000000000 ∧ vB v = l.take m then some (v, m) else none
  | none => none
abbrev St := Nat × Bool
def nm (T : List UInt8) (s : St) : Int × St :=
  if s.2 then (0, (s.1, true)) else match rdV (T.drop s.1) with
  | some (v, m) => ((v : Int), (s.1 + m, false))
  | none => (0, (s.1, true))
def on (T : List UInt8) (s : St) : Int × St :=
  if s.2 then (0, (s.1, true)) else match T[s.1]? with
  | some b => ((b.toNat : Int), (s.1 + 1, false))
  | none => (0, (s.1, true))
def edF (T : List UInt8) : Nat → St → List Ed → St × List Ed
  | 0, s, out => (s, out)
  | k + 1, s, out => if s.2 then (s, out) else edF T k (on T (on T s).2).2 (out ++ [((on T s).1, (on T (on T s).2).1)])
def q0 (T : List UInt8) : Int × St := nm T (0, false)
def q1 (T : List UInt8) : Int × St := on T (q0 T).2
def q2 (T : List UInt8) : Int × St := nm T (q1 T).2
def q3 (T : List UInt8) (K : Nat) : St × List Ed := edF T K (nm T (q2 T).2).2 []
def lbF (T : List UInt8) : Nat → St → List Int → St × List Int
  | 0, s, out => (s, out)
  | k + 1, s, out => lbF T k (on T s).2 (out ++ [(on T s).1])
def q4 (T : List UInt8) (K : Nat) : St × List Ed := edF T K (nm T (q1 T).2).2 []
def q5 (T : List UInt8) (K N : Nat) : St × List Int := lbF T N (q4 T K).1 []
theorem h_sl05SameInts (a b : List Int) (ha : a.length ≤ maxLen) : g_sl05SameInts (a, b) = some (decide (a = b), ()) := by
  show f_sl05SameInts BIG _ = _
  rw [e_sl05SameInts]
  by_cases hl : a.length = b.length
  · rw [decide_eq_true (by omega), Bool.not_true, cond_false, eqLoop a b ha hl false]
    · by_cases h : a = b <;> simp [h]
    · intro self i x y hx hy
      have hi := (List.getElem?_eq_some_iff.1 hx).1
      simp only [show ((i : Int) < (a.length : Int)) from by omega, decide_true, cond_true]
      rw [bnd_nat hi, hx, Option.bind_some, bnd_nat (by omega), hy, Option.bind_some, wr1 (by omega)]
      by_cases h1 : x = y <;> simp [h1]
    · intro self
      simp
  · rw [decide_eq_false (by omega), Bool.not_false, cond_true, decide_eq_false (fun h => hl (by rw [h]))]
theorem fM_all {S α : Type} (p : α → Bool) (f : S → α → S) : ∀ (l : List α) (s : S), fM (fun s y => if p y = true then some (f s y) else none) s l = if l.all p = true then some (l.foldl f s) else none
  | [], s => by simp [fM]
  | y :: l, s => by
    rw [fM]
    cases hp : p y with
    | false => simp [hp]
    | true => simp only [if_true, Option.bind_some, fM_all p f l, List.all_cons, hp, Bool.true_and, List.foldl_cons]
/-- What a row of labels tells: each vertex with its label. -/
def wlV (l : List Int) : List Ed := l.zipIdx.map fun p => (p.1, (p.2 : Int))
def vP (l : List Int) : Bool := l.zipIdx.all fun p => inB p.1 0 (p.2 : Int)
def pL (n : Int) (l : List Int) : Bool := decide ((l.length : Int) = n) && vP l
def wlB (n : Int) (L : List (List Int)) (cuts : List Ed) : Bool := inB n 1 12 && (decide (L.length ≤ 3) && (L.all (pL n) && cuts.all (edB n)))
def wlR (n : Int) (L : List (List Int)) (cuts : List Ed) : List Int × Bool := if wlB n L cuts = true then (labs n.toNat (L.flatMap wlV ++ cuts), true) else ([], false)
theorem zip_at {l : List Int} {i : Nat} {p : Int × Nat} (h : l.zipIdx[i]? = some p) : l[i]? = some p.1 ∧ p.2 = i := by
  rw [List.getElem?_zipIdx] at h
  cases hl : l[i]? with
  | none => rw [hl] at h; simp at h
  | some x => rw [hl] at h; simp at h; subst h; simp
theorem vP_in {n : Nat} {l : List Int} (hl : l.length = n) (h : vP l = true) : EIn n (wlV l) := by
  intro e he
  obtain ⟨p, hp, rfl⟩ := List.mem_map.1 he
  obtain ⟨i, hi, rfl⟩ := List.getElem_of_mem hp
  have h1 := List.all_eq_true.1 h _ hp
  obtain ⟨h2, h3⟩ := zip_at (List.getElem?_eq_getElem hi)
  rw [inB_t] at h1
  rw [List.length_zipIdx] at hi
  refine ⟨h1.1, ?_, ?_, ?_⟩ <;> (simp only; omega)
theorem foldl_flat {α β S : Type} (f : α → List β) (g : S → β → S) : ∀ (L : List α) (s : S), L.foldl (fun s l => (f l).foldl g s) s = (L.flatMap f).foldl g s
  | [], s => rfl
  | l :: L, s => by simp only [List.foldl_cons, List.flatMap_cons, List.foldl_append, foldl_flat f g L]
theorem unE_fold_len (E : List Ed) (s : List Int) : (E.foldl unE s).length = s.length := by
  induction E generalizing s with
  | nil => rfl
  | cons e E ih => rw [List.foldl_cons, ih, unE_len]
theorem w_iWholeLabels (n : Int) (L : List (List Int)) (cuts : List Ed) (hL : L.length ≤ 1048576) (hc : cuts.length ≤ 1048576) : g_iWholeLabels (n, L, cuts) = some (wlR n L cuts, ()) := by
  have hm : maxLen = 9223372036854775807 := by decide
  show f_iWholeLabels BIG _ = _
  rw [e_iWholeLabels, h_iin']
  unfold wlR wlB
  cases hn : inB n 1 12 with
  | false => rfl
  | true =>
    rw [inB_t] at hn
    obtain ⟨k, rfl⟩ : ∃ k : Nat, n = (k : Int) := ⟨n.toNat, by omega⟩
    by_cases h3 : L.length ≤ 3
    case neg => rw [decide_eq_false h3]; simp only [Option.bind_some, Bool.not_true, cond_false]; rw [decide_eq_true (by omega)]; rfl
    rw [decide_eq_true h3]
    simp only [Option.bind_some, Bool.not_true, cond_false, Bool.true_and]
    rw [decide_eq_false (show ¬ (3 : Int) < (L.length : Int) from by omega), cond_false, h_ifirst k (by omega), Option.bind_some]
    rw [exitLoop L (by omega) (fun _ (s : List Int) => s.length = k) (fun s l => if pL k l = true then some ((wlV l).foldl unE s) else none) (([], false) : List Int × Bool) (lab0_len k) (fun i s y s' hy hs he => by
      split at he
      · cases he; rw [unE_fold_len]; exact hs
      · cases he) (fun self s i y hy hs => ?_) (fun self s hs => by simp)]
    · rw [fM_all]
      cases hall : L.all (pL k) with
      | false => rfl
      | true =>
        simp only [if_true, Option.bind_some, foldl_flat, Bool.true_and]
        rw [exitLoop cuts (by omega) (fun _ (s : List Int) => s.length = k) (fun s e => if edB k e = true then some (unE s e) else none) (([], false) : List Int × Bool) (by rw [unE_fold_len]; exact lab0_len k) (fun i s y s' hy hs he => by
          split at he
          · cases he; rw [unE_len]; exact hs
          · cases he) (fun self s i y hy hs => ?_) (fun self s hs => by simp)]
        · rw [fM_all]
          cases hcall : cuts.all (edB k) with
          | false => rfl
          | true =>
            simp only [if_true, Option.bind_some, Int.toNat_natCast]
            unfold labs
            rw [List.foldl_append]
        · have hi := (List.getElem?_eq_some_iff.1 hy).1
          simp only [show ((i : Int) < (cuts.length : Int)) from by omega, decide_true, cond_true]
          rw [bnd_nat hi, hy, Option.bind_some, h_iEdgeOk, wr1 (by omega)]
          cases he : edB k y with
          | false => rfl
          | true =>
            have hin := edB_in he
            simp only [Option.bind_some, Bool.not_true, cond_false, if_true]
            rw [h_iunion s y.1 y.2 hin.1 (by omega) hin.2.2.1 (by omega) (by omega)]; rfl
    · have hi := (List.getElem?_eq_some_iff.1 hy).1
      simp only [show ((i : Int) < (L.length : Int)) from by omega, decide_true, cond_true]
      rw [bnd_nat hi, hy, Option.bind_some, wr1 (by omega)]
      by_cases hlen : (y.length : Int) = (k : Int)
      case neg => unfold pL; rw [decide_eq_false hlen]; rfl
      rw [decide_eq_true hlen, Bool.not_true, cond_false]
      have hz : (y.zipIdx).length = y.length := List.length_zipIdx
      have hlz : (((y.length : Nat) : Int)) = ((y.zipIdx.length : Nat) : Int) := by rw [hz]
      rw [exitLoop y.zipIdx (by omega) (fun _ (s : List Int) => s.length = k) (fun s p => if inB p.1 0 (p.2 : Int) = true then some (unE s (p.1, (p.2 : Int))) else none) (([], false) : List Int × Bool) hs (fun i s y s' hy hs he => by
        split at he
        · cases he; rw [unE_len]; exact hs
        · cases he) (fun self s j p hp hs => ?_) (fun self s hs => by simp only [hz, show ¬ ((y.length : Int) < (y.length : Int)) from by omega, decide_false, cond_false])]
      · rw [fM_all]
        have e1 : pL k y = vP y := by unfold pL; rw [decide_eq_true hlen, Bool.true_and]
        rw [e1]
        unfold vP wlV
        cases y.zipIdx.all fun p => inB p.1 0 (p.2 : Int) with
        | false => rfl
        | true => simp only [if_true, Option.bind_some, List.foldl_map]
      · obtain ⟨hp1, hp2⟩ := zip_at hp
        have hj := (List.getElem?_eq_some_iff.1 hp1).1
        obtain ⟨x, v⟩ := p
        simp only at hp1 hp2
        subst hp2
        simp only [show ((v : Int) < (y.length : Int)) from by omega, decide_true, cond_true]
        rw [bnd_nat hj, hp1, Option.bind_some, h_iin', wr1 (by omega)]
        cases hx : inB x 0 (v : Int) with
        | false => rfl
        | true =>
          rw [inB_t] at hx
          simp only [Option.bind_some, Bool.not_true, cond_false, if_true]
          rw [h_iunion s x (v : Int) hx.1 (by omega) (by omega) (by omega) (by omega)]; rfl
/-- A head that is right, and what is known of it. -/
structure HdF (x0 : Int) (x1 : List Int) (x2 : List Ed) (x3 : List (List Int)) (x4 : List Int) (x14 : List Sd) : Prop where
  n : 1 ≤ x0 ∧ x0 ≤ 12
  k : 1 ≤ x3.length ∧ x3.length ≤ 3
  nums : x4.length = x3.length
  own : (x1.length : Int) = x0
  cuts : eOk x0 x2 = true
  said : x14.length ≤ 80
  o1 : ∀ i, i < x1.length → 1 ≤ x1.getD i 0 ∧ x1.getD i 0 ≤ x3.length
  o3 : ∀ i, i < x3.length → lbOk x0 (x3.getD i []) = true ∧ 0 ≤ x4.getD i 0 ∧ x4.getD i 0 ≤ 99991
section
variable {x0 : Int} {x1 : List Int} {x2 : List Ed} {x3 : List (List Int)} {x4 : List Int} {x14 : List Sd}
theorem HdF.at (h : HdF x0 x1 x2 x3 x4 x14) {v : Int} (h1 : 0 ≤ v) (h2 : v ≤ x0 - 1) : v < x1.length ∧ x1[v.toNat]? = some (x1.getD v.toNat 0) ∧ 1 ≤ x1.getD v.toNat 0 ∧ x1.getD v.toNat 0 ≤ x3.length := by
  have ho := h.own
  have := h.o1 v.toNat (by omega)
  exact ⟨by omega, getD_at (by omega), this.1, this.2⟩
end
theorem loop_bind {X B C : Type} {F : (X → Option B) → X → Option B} (I : X → Prop) (μ : X → Nat) (Q : X → B → Prop) (P : Option C → Prop) {x : X} {k : B → Option C} (hx : μ x < BIG) (hi : I x)
    (h : ∀ self x, I x → (∀ y, I y → μ y < μ x → ∃ b, self y = some b ∧ Q y b) → ∃ b, F self x = some b ∧ Q x b) (hk : ∀ b, Q x b → P (k b)) : P (Option.bind (loopT BIG F x) k) := by
  obtain ⟨b, h1, h2⟩ := loop_rel (F := F) I μ Q h hx hi
  rw [h1]
  exact hk b h2
theorem h_lsameInts (a b : List Int) (ha : a.length ≤ maxLen) : g_lsameInts (a, b) = some (decide (a = b), ()) := by
  rw [← h_sl05SameInts a b ha]
  show f_lsameInts BIG _ = f_sl05SameInts BIG _
  rw [e_lsameInts, e_sl05SameInts]
  all_goals rfl
theorem h_sDrawPlaces (a : List Int) (ha : a.length ≤ 1048576) : ∃ p, g_sDrawPlaces a = some (p, ()) ∧ p.length = 12 ∧ ∀ x, x ∈ p → 0 ≤ x ∧ x < 10000 := by
  have hm : maxLen = 9223372036854775807 := by decide
  have e : g_sDrawPlaces a = f_sDrawPlaces BIG a := rfl
  rw [e, e_sDrawPlaces]
  obtain ⟨c, k, o⟩ := h_sl01New a ha
  obtain ⟨b, c1, k1, o1, _⟩ := h_sl01Byte c o
  rw [k, Option.bind_some, k1, Option.bind_some]
  refine loop_bind (P := fun o => ∃ p : List Int, o = some (p, ()) ∧ p.length = 12 ∧ ∀ x, x ∈ p → 0 ≤ x ∧ x < 10000) (fun (x : List Int × Cur × Int) => ∃ i : Nat, x.2.2 = (i : Int) ∧ i ≤ 12 ∧ x.1.length = i ∧ curOk x.2.1 ∧ ∀ y, y ∈ x.1 → 0 ≤ y ∧ y < 10000) (fun x => 12 - x.2.2.toNat) (fun _ (b : List Int) => b.length = 12 ∧ ∀ x, x ∈ b → 0 ≤ x ∧ x < 10000) (by simp [BIG]) ⟨0, rfl, by omega, rfl, o1, fun y hy => by cases hy⟩ (fun self x ⟨i, h1, h2, h3, h4, h5⟩ hs => ?_) (fun b h => ⟨b, rfl, h⟩)
  obtain ⟨s, cu, j⟩ := x
  simp only at h1 h3 h4 h5
  subst h1
  by_cases hi : i < 12
  · simp only [show ((i : Int) < 12) from by omega, decide_true, cond_true]
    obtain ⟨r, c2, k2, o2, r0, r1, _⟩ := h_sl01Below cu 10000 h4 (by decide)
    rw [k2, Option.bind_some, decide_eq_true (by simp only [List.length_cons, List.length_nil]; omega), cond_true, wr1 (by omega)]
    refine hs _ ⟨i + 1, rfl, hi, by simp only [List.length_append, List.length_cons, List.length_nil]; omega, o2, fun y hy => ?_⟩ (by simp; omega)
    simp only [List.mem_append, List.mem_singleton] at hy
    rcases hy with hy | rfl
    · exact h5 y hy
    · exact ⟨r0, r1 (by decide)⟩
  · have : i = 12 := by omega
    subst this
    simp only [show ¬ (((12 : Nat) : Int) < 12) from by omega, decide_false, cond_false]
    exact ⟨_, rfl, h3, h5⟩
theorem wlV_of {l : List Int} {v : Nat} {x : Int} (h : l[v]? = some x) : (x, (v : Int)) ∈ wlV l := by
  unfold wlV
  refine List.mem_map.2 ⟨(x, v), ?_, rfl⟩
  have : l.zipIdx[v]? = some (x, v) := by rw [List.getElem?_zipIdx, h]; simp
  exact List.mem_of_getElem? this
theorem wlV_at {l : List Int} {e : Ed} (h : e ∈ wlV l) : ∃ v : Nat, l[v]? = some e.1 ∧ e.2 = (v : Int) := by
  obtain ⟨p, hp, rfl⟩ := List.mem_map.1 h
  obtain ⟨i, hi⟩ := List.mem_iff_getElem?.1 hp
  obtain ⟨h1, h2⟩ := zip_at hi
  exact ⟨i, h1, by simp [h2]⟩
theorem pL_labs {n : Nat} {A : List Ed} (h : EIn n A) : pL (n : Int) (labs n A) = true := by
  have hL := labs_ok h
  unfold pL
  rw [decide_eq_true (by rw [labs_len]), Bool.true_and]
  unfold vP
  rw [List.all_eq_true]
  intro p hp
  obtain ⟨i, hi⟩ := List.mem_iff_getElem?.1 hp
  obtain ⟨h1, h2⟩ := zip_at hi
  have := hL.le h1
  have := hL.lt h1
  rw [inB_t, h2]; omega
theorem parts_con {n : Nat} {A B C es : List Ed} (hA : EIn n A) (hB : EIn n B) (h : ∀ e, e ∈ es ↔ e ∈ C ∨ e ∈ A ∨ e ∈ B) (u v : Int) : Con ([labs n A, labs n B].flatMap wlV ++ C) u v ↔ Con es u v := by
  have part : ∀ D : List Ed, EIn n D → (∀ e, e ∈ wlV (labs n D) → e ∈ [labs n A, labs n B].flatMap wlV ++ C) → ∀ e, e ∈ D → Con ([labs n A, labs n B].flatMap wlV ++ C) e.1 e.2 := by
    intro D hD hin e he
    have hL := labs_ok hD
    obtain ⟨a1, a2, a3, a4⟩ := hD e he
    have i1 : e.1.toNat < (labs n D).length := by rw [labs_len]; omega
    have i2 : e.2.toNat < (labs n D).length := by rw [labs_len]; omega
    have g1 := getD_at i1
    have g2 := getD_at i2
    have hxy := (hL.iff g1 g2).2 (by rw [Int.toNat_of_nonneg a1, Int.toNat_of_nonneg a3]; exact Con.of he)
    have m1 := hin _ (wlV_of g1)
    have m2 := hin _ (wlV_of g2)
    rw [Int.toNat_of_nonneg a1] at m1
    rw [Int.toNat_of_nonneg a3, ← hxy] at m2
    exact (Con.of m1).symm.trans (Con.of m2)
  have back : ∀ D : List Ed, EIn n D → (∀ e, e ∈ D → e ∈ es) → ∀ e, e ∈ wlV (labs n D) → Con es e.1 e.2 := by
    intro D hD hin e he
    obtain ⟨w, h1, h2⟩ := wlV_at he
    have := ((labs_ok hD).2 w _ h1).1
    rw [h2]
    exact (this.mono hin).symm
  constructor
  · refine fun hc => hc.sub fun e he => ?_
    rcases List.mem_append.1 he with he | he
    · simp only [List.flatMap_cons, List.flatMap_nil, List.append_nil, List.mem_append] at he
      rcases he with he | he
      · exact back A hA (fun e he => (h e).2 (.inr (.inl he))) e he
      · exact back B hB (fun e he => (h e).2 (.inr (.inr he))) e he
    · exact Con.of ((h e).2 (.inl he))
  · refine fun hc => hc.sub fun e he => ?_
    rcases (h e).1 he with he | he | he
    · exact Con.of (List.mem_append_right _ he)
    · exact part A hA (fun e he => List.mem_append_left _ (by simp [he])) e he
    · exact part B hB (fun e he => List.mem_append_left _ (by simp [he])) e he
theorem GrOk.sub {n : Int} {es A : List Ed} (h : GrOk n es) (hs : A.Sublist es) : GrOk n A := ⟨h.1, h.2.1, h.2.2.1.sublist hs, fun e he => h.2.2.2 e (hs.subset he)⟩
theorem srt_nodup {es : List Ed} (h : Srt es) : es.Nodup := by
  refine List.Pairwise.imp (fun {a b} hab => ?_) h
  rintro rfl
  rw [lsB_irrefl] at hab; cases hab
theorem law_lFnWholes (a : List Int) (h : a.length ≤ maxLen) : g_lFnWholes a = some (true, ()) := by
  have hm : maxLen = 9223372036854775807 := by decide
  show f_lFnWholes BIG _ = _
  rw [e_lFnWholes]
  have hb : g_lbig a = some (decide ((1048576 : Int) < (a.length : Int)), ()) := by
    show f_lbig BIG _ = _
    rw [e_lbig]
  rw [hb, Option.bind_some]
  by_cases hl : a.length ≤ 1048576
  case neg => rw [decide_eq_true (by omega)]; rfl
  rw [decide_eq_false (by omega), cond_false]
  obtain ⟨n, es, ed, k, hg, hle, _⟩ := h_sDrawRightGraph a hl
  obtain ⟨p, kp, hp12, hpin⟩ := h_sDrawPlaces a hl
  rw [k, Option.bind_some, kp, Option.bind_some]
  simp only
  obtain ⟨N, rfl⟩ : ∃ N : Nat, n = (N : Int) := ⟨n.toNat, by have := hg.1; omega⟩
  have hN : 2 ≤ N ∧ N ≤ 12 := by have := hg.1; have := hg.2.1; omega
  refine loop_bind (P := fun o => o = some (true, ())) (fun (x : (Int × List Ed) × (Int × List Ed) × List Ed × Int) => ∃ (i : Nat) (A B C : List Ed), x = (((N : Int), A), ((N : Int), B), C, (i : Int)) ∧ i ≤ es.length ∧ (C ++ (A ++ B)).Perm (es.take i) ∧ A.Sublist (es.take i) ∧ B.Sublist (es.take i) ∧ C.Sublist (es.take i)) (fun x => es.length - x.2.2.2.toNat) (fun _ (y : (Int × List Ed) × (Int × List Ed) × List Ed) => ∃ A B C : List Ed, y = (((N : Int), A), ((N : Int), B), C) ∧ (C ++ (A ++ B)).Perm es ∧ A.Sublist es ∧ B.Sublist es ∧ C.Sublist es) (by simp [BIG]; omega) ⟨0, [], [], [], rfl, by omega, by simp, by simp, by simp, by simp⟩ (fun self x ⟨i, A, B, C, h1, h2, h3, h4, h5, h6⟩ hs => ?_) (fun y ⟨A, B, C, h1, h2, h3, h4, h5⟩ => ?_)
  · subst h1
    by_cases hi : i < es.length
    · have ht : es.take (i + 1) = es.take i ++ [es[i]] := List.take_succ_eq_append_getElem hi
      have hy : es[i]? = some es[i] := List.getElem?_eq_getElem hi
      generalize es[i] = y at ht hy
      have hA := h4.length_le
      have hB := h5.length_le
      have hC := h6.length_le
      rw [List.length_take] at hA hB hC
      have htm : Int.tmod (i : Int) 12 = ((i % 12 : Nat) : Int) := rfl
      have hlt : i % 12 < p.length := by rw [hp12]; exact Nat.mod_lt _ (by omega)
      simp only [show ((i : Int) < (es.length : Int)) from by omega, decide_true, cond_true, show decide ((12 : Int) = 0) = false from rfl, show decide ((3 : Int) = 0) = false from rfl, cond_false]
      rw [htm, bnd_nat hlt, List.getElem?_eq_getElem hlt, Option.bind_some, wr1 (by omega)]
      simp only [bnd_nat hi, hy, Option.bind_some]
      have c1 : decide (A.length + [y].length ≤ 4294967296) = true := decide_eq_true (by simp only [List.length_cons, List.length_nil]; omega)
      have c2 : decide (B.length + [y].length ≤ 4294967296) = true := decide_eq_true (by simp only [List.length_cons, List.length_nil]; omega)
      have c3 : decide (C.length + [y].length ≤ 4294967296) = true := decide_eq_true (by simp only [List.length_cons, List.length_nil]; omega)
      rw [c1, c2, c3]
      simp only [cond_true]
      have s1 : ∀ D : List Ed, D.Sublist (es.take i) → D.Sublist (es.take i ++ [y]) := fun D hD => hD.trans (List.sublist_append_left _ _)
      have s2 : ∀ D : List Ed, D.Sublist (es.take i) → (D ++ [y]).Sublist (es.take i ++ [y]) := fun D hD => hD.append (List.Sublist.refl _)
      have p0 : ((C ++ (A ++ B)) ++ [y]).Perm (es.take i ++ [y]) := h3.append_right _
      have hc : ∀ (b1 b2 : Bool), ∃ z, (bif b1 then some (((N : Int), A ++ [y]), ((N : Int), B), C) else bif b2 then some (((N : Int), A), ((N : Int), B ++ [y]), C) else some (((N : Int), A), ((N : Int), B), C ++ [y])) = some z ∧ ∃ A' B' C', z = (((N : Int), A'), ((N : Int), B'), C') ∧ (C' ++ (A' ++ B')).Perm (es.take (i + 1)) ∧ A'.Sublist (es.take (i + 1)) ∧ B'.Sublist (es.take (i + 1)) ∧ C'.Sublist (es.take (i + 1)) := by
        intro b1 b2
        rw [ht]
        cases b1 with
        | true =>
          refine ⟨_, rfl, _, _, _, rfl, List.Perm.trans ?_ p0, s2 A h4, s1 B h5, s1 C h6⟩
          rw [List.append_assoc C, List.append_assoc A, List.append_assoc A]
          exact (List.perm_append_comm.append_left A).append_left C
        | false =>
          cases b2 with
          | true =>
            refine ⟨_, rfl, _, _, _, rfl, List.Perm.trans ?_ p0, s1 A h4, s2 B h5, s1 C h6⟩
            rw [List.append_assoc C, List.append_assoc A]
          | false =>
            refine ⟨_, rfl, _, _, _, rfl, List.Perm.trans ?_ p0, s1 A h4, s1 B h5, s2 C h6⟩
            rw [List.append_assoc C, List.append_assoc C]
            exact List.perm_append_comm.append_left C
      obtain ⟨z, hz, A', B', C', rfl, q1, q2, q3, q4⟩ := hc (decide (Int.tmod (IntKind.wrap .i64 (p[i % 12] + (i : Int))) 3 = 0)) (decide (Int.tmod (IntKind.wrap .i64 (p[i % 12] + (i : Int))) 3 = 1))
      rw [hz]
      simp only [Option.bind_some]
      exact hs _ ⟨i + 1, A', B', C', rfl, hi, q1, q2, q3, q4⟩ (by simp; omega)
    · have : i = es.length := by omega
      subst this
      simp only [show ¬ ((es.length : Int) < (es.length : Int)) from by omega, decide_false, cond_false]
      rw [List.take_length] at h3 h4 h5 h6
      exact ⟨_, rfl, A, B, C, rfl, h3, h4, h5, h6⟩
  · subst h1
    have lA := h3.length_le
    have lB := h4.length_le
    have lC := h5.length_le
    have gA := hg.sub h3
    have gB := hg.sub h4
    have kA := eOk_of gA (by omega)
    have kB := eOk_of gB (by omega)
    have kE := eOk_of hg (by omega)
    have rA : grB (N : Int) A = true := by unfold grB; rw [kA, inB_t.2 (by omega)]; rfl
    have rB : grB (N : Int) B = true := by unfold grB; rw [kB, inB_t.2 (by omega)]; rfl
    have rE : grB (N : Int) es = true := by unfold grB; rw [kE, inB_t.2 (by omega)]; rfl
    have nA := eOk_in kA
    have nB := eOk_in kB
    have nE := eOk_in kE
    have hmem : ∀ e, e ∈ es ↔ e ∈ C ∨ e ∈ A ∨ e ∈ B := fun e => by
      rw [← h2.mem_iff]; simp only [List.mem_append]
    simp only [h_sLabels N A (by omega), h_sLabels N B (by omega), h_sLabels N es (by omega), rA, rB, rE, if_true, Option.bind_some]
    rw [w_iWholeLabels (N : Int) [labs N A, labs N B] C (by simp) (by omega), h_iWholeEdges [A, B] C (by simp) (by simp; omega), h_iWholeEdges [A, A] C (by simp) (by simp; omega)]
    have hwl : wlB (N : Int) [labs N A, labs N B] C = true := by
      unfold wlB
      rw [inB_t.2 (by omega), decide_eq_true (by simp)]
      simp only [List.all_cons, List.all_nil, pL_labs nA, pL_labs nB, Bool.true_and, Bool.and_true, List.all_eq_true]
      exact fun e he => hg.2.2.2 e (h5.subset he)
    have hlab : labs N ([labs N A, labs N B].flatMap wlV ++ C) = labs N es := by
      have hin : EIn N ([labs N A, labs N B].flatMap wlV ++ C) := by
        intro e he
        rcases List.mem_append.1 he with he | he
        · simp only [List.flatMap_cons, List.flatMap_nil, List.append_nil, List.mem_append] at he
          rcases he with he | he
          · have := pL_labs nA
            simp only [pL, Bool.and_eq_true] at this
            exact vP_in (labs_len N A) this.2 e he
          · have := pL_labs nB
            simp only [pL, Bool.and_eq_true] at this
            exact vP_in (labs_len N B) this.2 e he
        · exact nE e (h5.subset he)
      exact Lab.uniq (labs_ok hin) (labs_ok nE) (parts_con nA nB hmem)
    have hw : wlR (N : Int) [labs N A, labs N B] C = (labs N es, true) := by
      unfold wlR
      rw [if_pos hwl, Int.toNat_natCast, hlab]
    have nd : (C ++ (A ++ B)).Nodup := h2.nodup_iff.2 (srt_nodup hg.2.2.1)
    have hAB : ([A, B] : LL).flatten = A ++ B := by simp
    have hAA : ([A, A] : LL).flatten = A ++ A := by simp
    have h18 : resW (fM stE [] (C ++ ([A, B] : LL).flatten)) = (es, true) := by
      rw [hAB]
      obtain ⟨s', hs'⟩ := fM_ok (s := []) nd (fun x _ => by simp)
      obtain ⟨k1, k2, k3, k4, _⟩ := fM_some hs'
      rw [hs']
      have : s' = es := srt_eq (k4 List.Pairwise.nil) hg.2.2.1 fun x => by
        rw [k3 x, h2.mem_iff]; simp
      rw [this]; rfl
    have h19 : (resW (fM stE [] (C ++ ([A, A] : LL).flatten))).2 = decide ((A.length : Int) = 0) := by
      rw [hAA]
      cases A with
      | nil =>
        have nd' : (C ++ ([] ++ [])).Nodup := by
          simp only [List.append_nil]
          exact (srt_nodup hg.2.2.1).sublist h5
        obtain ⟨s', hs'⟩ := fM_ok (s := []) nd' (fun x _ => by simp)
        rw [hs']; rfl
      | cons x A =>
        cases hf : fM stE [] (C ++ ((x :: A) ++ (x :: A))) with
        | none => simp [resW]; omega
        | some s' =>
          exfalso
          obtain ⟨k1, _⟩ := fM_some hf
          have := (List.nodup_append.1 (List.nodup_append.1 k1).2.1).2.2 x (by simp) x (by simp)
          exact this rfl
    rw [hw, h18]
    simp only [Option.bind_some, cond_true, h19]
    rw [h_lsameInts _ _ (by rw [labs_len]; omega)]
    simp only [Option.bind_some, decide_true, cond_true]
    rw [h_lsameEdges _ _ (by omega)]
    simp
end Go.Fw
