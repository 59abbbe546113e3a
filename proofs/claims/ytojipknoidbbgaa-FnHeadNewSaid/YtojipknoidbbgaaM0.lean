/- What the given functions come to. No conditions. -/
import Derived.Test.YtojipknoidbbgaaX0
import Derived.IntWalk
set_option linter.unusedVariables false
set_option linter.unusedSimpArgs false
namespace Go.Fw

theorem loop_rel {X B : Type} {F : (X → Option B) → X → Option B} (I : X → Prop) (μ : X → Nat) (Q : X → B → Prop)
    (h : ∀ self x, I x → (∀ y, I y → μ y < μ x → ∃ b, self y = some b ∧ Q y b) → ∃ b, F self x = some b ∧ Q x b) : ∀ {n : Nat} {x : X}, μ x < n → I x → ∃ b, loopT n F x = some b ∧ Q x b
  | 0, _, hn, _ => absurd hn (Nat.not_lt_zero _)
  | n + 1, x, hn, hi => h (it F n) x hi fun _ hy hm => loop_rel I μ Q h (n := n) (by omega) hy
theorem loop_eq {X B : Type} {F : (X → Option B) → X → Option B} (I : X → Prop) (μ : X → Nat) (R : X → B)
    (h : ∀ self x, I x → (∀ y, I y → μ y < μ x → self y = some (R y)) → F self x = some (R x)) {n : Nat} {x : X} (hn : μ x < n) (hi : I x) : loopT n F x = some (R x) := by
  obtain ⟨b, h1, h2⟩ := loop_rel (F := F) I μ (fun x b => b = R x) (fun self x hx hs => ⟨_, h self x hx fun y hy hm => by obtain ⟨b, h1, h2⟩ := hs y hy hm; rw [h1, h2], rfl⟩) hn hi
  rw [h1, h2]
theorem wr {n : Int} (h : -9223372036854775808 ≤ n) (h' : n ≤ 9223372036854775807) : IntKind.wrap .i64 n = n := by
  rw [IntKind.wrap_i64]; omega
theorem wr1 {i : Nat} (h : i < maxLen) : IntKind.wrap .i64 ((i : Int) + 1) = ((i + 1 : Nat) : Int) := by
  have : maxLen = 9223372036854775807 := by decide
  rw [wr (by omega) (by omega)]; rfl
theorem bnd_ok {B : Type} {len : Nat} {i : Int} {k : Nat → Option B} (h : 0 ≤ i) (h' : i < len) : bnd len i k = k i.toNat := by
  unfold bnd
  rw [if_pos ⟨h, by omega⟩]
theorem bnd_nat {B : Type} {len : Nat} {i : Nat} {k : Nat → Option B} (h' : i < len) : bnd len (i : Int) k = k i := by
  rw [bnd_ok (Int.natCast_nonneg i) (by omega)]
  simp
/-- A loop that goes through a row, and is left at the first place where it is told so. -/
theorem allLoop {α B : Type} (a : List α) (hl : a.length < 18446744073709551616) {F : (Int → Option (Unit ⊕ B)) → Int → Option (Unit ⊕ B)} (p : Nat → Bool) (b : B)
    (hF : ∀ self (i : Nat) y, a[i]? = some y → F self (i : Int) = if p i then self ((i + 1 : Nat) : Int) else some (.inr b))
    (hE : ∀ self, F self (a.length : Int) = some (.inl ())) : loopT BIG F 0 = some (if ∀ i, i < a.length → p i = true then .inl () else .inr b) := by
  have hh := loop_rel (F := F) (fun x => ∃ i : Nat, x = i ∧ i ≤ a.length) (fun x => a.length - x.toNat) (fun x r => ((∀ i : Nat, x ≤ (i : Int) → i < a.length → p i = true) ∧ r = .inl ()) ∨ ((∃ i : Nat, i < a.length ∧ p i = false) ∧ r = .inr b)) (fun self x ⟨i, h1, h2⟩ hs => ?_) (n := BIG) (x := 0) (by simp; exact hl) ⟨0, rfl, by simp⟩
  · obtain ⟨r, hr, hq⟩ := hh
    rw [hr]
    congr 1
    rcases hq with ⟨h1, rfl⟩ | ⟨⟨i, h1, h2⟩, rfl⟩
    · rw [if_pos fun i hi => h1 i (by omega) hi]
    · rw [if_neg]
      intro h
      rw [h i h1] at h2; cases h2
  · subst h1
    by_cases hi : i < a.length
    · rw [hF self i a[i] (List.getElem?_eq_getElem hi)]
      cases hp : p i with
      | true =>
        rw [if_pos rfl]
        obtain ⟨r, hr, hq⟩ := hs _ ⟨i + 1, rfl, hi⟩ (by simp; omega)
        refine ⟨r, hr, ?_⟩
        rcases hq with ⟨h1, rfl⟩ | h1
        · refine .inl ⟨fun k hk hk' => ?_, rfl⟩
          by_cases h : k = i
          · subst h; exact hp
          · exact h1 k (by omega) hk'
        · exact .inr h1
      | false => exact ⟨_, rfl, .inr ⟨⟨i, hi, hp⟩, rfl⟩⟩
    · have : i = a.length := by omega
      subst this
      exact ⟨_, hE self, .inl ⟨fun k hk hk' => by omega, rfl⟩⟩
theorem maxLen_lt : maxLen < 18446744073709551616 := by decide
/-- A loop that goes through a row and keeps an account. -/
theorem foldLoop {α S B : Type} (a : List α) (hl : a.length < 18446744073709551616) {F : (S × Int → Option B) → S × Int → Option B} (I : Nat → S → Prop) (st : S → α → S) (R : S → B) {s0 : S} (h0 : I 0 s0)
    (hI : ∀ i s y, a[i]? = some y → I i s → I (i + 1) (st s y)) (hF : ∀ self s (i : Nat) y, a[i]? = some y → I i s → F self (s, (i : Int)) = self (st s y, ((i + 1 : Nat) : Int)))
    (hE : ∀ self s, I a.length s → F self (s, (a.length : Int)) = some (R s)) : loopT BIG F (s0, 0) = some (R (a.foldl st s0)) := by
  have := loop_eq (F := F) (fun x => ∃ i : Nat, x.2 = i ∧ i ≤ a.length ∧ I i x.1) (fun x => a.length - x.2.toNat) (fun x => R ((a.drop x.2.toNat).foldl st x.1)) (fun self x ⟨i, h1, h2, h3⟩ hs => ?_) (n := BIG) (x := (s0, 0)) (by simp; exact hl) ⟨0, rfl, by simp, h0⟩
  · simpa using this
  · obtain ⟨s, j⟩ := x
    simp only at h1 h2 h3
    subst h1
    by_cases hi : i < a.length
    · have hy := List.getElem?_eq_getElem hi
      rw [hF self s i a[i] hy h3, hs _ ⟨i + 1, rfl, hi, hI _ _ _ hy h3⟩ (by simp; omega)]
      simp only [Int.toNat_natCast]
      rw [List.drop_eq_getElem_cons hi, List.foldl_cons]
    · have : i = a.length := by omega
      subst this
      rw [hE self s h3]
      simp
theorem set_take_drop {α : Type} {a t : List α} {i : Nat} {z : α} (ht : t.length = a.length) (hi : i < a.length) (hz : t[i]? = some z) : (t.take i ++ a.drop i).set i z = t.take (i + 1) ++ a.drop (i + 1) := by
  have hi' : i < t.length := by omega
  rw [List.getElem?_eq_getElem hi', Option.some.injEq] at hz
  subst hz
  rw [List.set_append_right _ _ (by simp; omega), List.drop_eq_getElem_cons hi, show i - (t.take i).length = 0 from by simp; omega, List.set_cons_zero, List.take_succ_eq_append_getElem hi', List.append_assoc]
  rfl
/-- A row bears marks that go from a number to a number. -/
def HdL {α : Type} (hd : Int → α → Int → Prop) : Int → List α → Int → Prop
  | k, [], k' => k' = k
  | k, z :: t, k' => ∃ k1, hd k z k1 ∧ HdL hd k1 t k'
theorem HdL.snoc {α : Type} {hd : Int → α → Int → Prop} : ∀ {t : List α} {k k1 k2 : Int} {z : α}, HdL hd k t k1 → hd k1 z k2 → HdL hd k (t ++ [z]) k2
  | [], _, _, _, _, h, h' => by cases h; exact ⟨_, h', rfl⟩
  | _ :: _, _, _, _, _, ⟨k3, h1, h2⟩, h' => ⟨k3, h1, h2.snoc h'⟩
/-- Two vertices hang together by edges. -/
inductive Con (E : List (Int × Int)) : Int → Int → Prop
  | refl (v : Int) : Con E v v
  | fwd {u v w : Int} : Con E u v → (v, w) ∈ E → Con E u w
  | bwd {u v w : Int} : Con E u v → (w, v) ∈ E → Con E u w
theorem Con.trans {E : List (Int × Int)} {u v w : Int} (h : Con E u v) (h' : Con E v w) : Con E u w := by
  induction h' with
  | refl => exact h
  | fwd _ he ih => exact .fwd ih he
  | bwd _ he ih => exact .bwd ih he
theorem Con.symm {E : List (Int × Int)} {u v : Int} (h : Con E u v) : Con E v u := by
  induction h with
  | refl => exact .refl _
  | fwd _ he ih => exact Con.trans (.bwd (.refl _) he) ih
  | bwd _ he ih => exact Con.trans (.fwd (.refl _) he) ih
theorem Con.mono {E E' : List (Int × Int)} (hE : ∀ e, e ∈ E → e ∈ E') {u v : Int} (h : Con E u v) : Con E' u v := by
  induction h with
  | refl => exact .refl _
  | fwd _ he ih => exact .fwd ih (hE _ he)
  | bwd _ he ih => exact .bwd ih (hE _ he)
theorem Con.of {E : List (Int × Int)} {u v : Int} (h : (u, v) ∈ E) : Con E u v := .fwd (.refl _) h
theorem Con.nil {u v : Int} (h : Con [] u v) : u = v := by
  induction h with
  | refl => rfl
  | fwd _ he _ => cases he
  | bwd _ he _ => cases he
theorem Con.snoc {E : List (Int × Int)} {a b u v : Int} : Con (E ++ [(a, b)]) u v ↔ Con E u v ∨ (Con E u a ∧ Con E b v) ∨ (Con E u b ∧ Con E a v) := by
  constructor
  · intro h
    induction h with
    | refl => exact .inl (.refl _)
    | fwd _ he ih =>
      rcases List.mem_append.1 he with h1 | h1
      · rcases ih with h | ⟨h, h'⟩ | ⟨h, h'⟩
        · exact .inl (.fwd h h1)
        · exact .inr (.inl ⟨h, .fwd h' h1⟩)
        · exact .inr (.inr ⟨h, .fwd h' h1⟩)
      · cases List.mem_singleton.1 h1
        rcases ih with h | ⟨h, h'⟩ | ⟨h, h'⟩
        · exact .inr (.inl ⟨h, .refl _⟩)
        · exact .inr (.inl ⟨h, .refl _⟩)
        · exact .inl h
    | bwd _ he ih =>
      rcases List.mem_append.1 he with h1 | h1
      · rcases ih with h | ⟨h, h'⟩ | ⟨h, h'⟩
        · exact .inl (.bwd h h1)
        · exact .inr (.inl ⟨h, .bwd h' h1⟩)
        · exact .inr (.inr ⟨h, .bwd h' h1⟩)
      · cases List.mem_singleton.1 h1
        rcases ih with h | ⟨h, h'⟩ | ⟨h, h'⟩
        · exact .inr (.inr ⟨h, .refl _⟩)
        · exact .inl h
        · exact .inr (.inr ⟨h, .refl _⟩)
  · have hm : ∀ {x y : Int}, Con E x y → Con (E ++ [(a, b)]) x y := fun h => h.mono fun e he => List.mem_append_left _ he
    have hab : Con (E ++ [(a, b)]) a b := .of (List.mem_append_right _ (List.mem_singleton.2 rfl))
    rintro (h | ⟨h, h'⟩ | ⟨h, h'⟩)
    · exact hm h
    · exact (hm h).trans (hab.trans (hm h'))
    · exact (hm h).trans (hab.symm.trans (hm h'))
/-- Edges of so many vertices. -/
def EIn (n : Nat) (E : List (Int × Int)) : Prop := ∀ e, e ∈ E → 0 ≤ e.1 ∧ e.1 < n ∧ 0 ≤ e.2 ∧ e.2 < n
theorem Con.range {n : Nat} {E : List (Int × Int)} (hE : EIn n E) {u v : Int} (h : Con E u v) (hu : 0 ≤ u ∧ u < n) : 0 ≤ v ∧ v < n := by
  induction h with
  | refl => exact hu
  | fwd _ he _ => exact ⟨(hE _ he).2.2.1, (hE _ he).2.2.2⟩
  | bwd _ he _ => exact ⟨(hE _ he).1, (hE _ he).2.1⟩
/-- Labels: to each vertex the least one that it hangs together with. -/
def Lab (n : Nat) (E : List (Int × Int)) (l : List Int) : Prop :=
  l.length = n ∧ ∀ (v : Nat) (x : Int), l[v]? = some x → Con E v x ∧ 0 ≤ x ∧ ∀ u : Int, 0 ≤ u → Con E v u → x ≤ u
theorem Lab.le {n : Nat} {E : List (Int × Int)} {l : List Int} (h : Lab n E l) {v : Nat} {x : Int} (hx : l[v]? = some x) : x ≤ v :=
  (h.2 v x hx).2.2 v (Int.natCast_nonneg v) (.refl _)
theorem Lab.lt {n : Nat} {E : List (Int × Int)} {l : List Int} (h : Lab n E l) {v : Nat} {x : Int} (hx : l[v]? = some x) : 0 ≤ x ∧ x < n := by
  have h1 := h.le hx
  have h2 := (List.getElem?_eq_some_iff.1 hx).1
  have h3 := (h.2 v x hx).2.1
  have h4 := h.1
  omega
theorem Lab.iff {n : Nat} {E : List (Int × Int)} {l : List Int} (h : Lab n E l) {u v : Nat} {x y : Int} (hx : l[u]? = some x) (hy : l[v]? = some y) : x = y ↔ Con E u v := by
  have h1 := h.2 u x hx
  have h2 := h.2 v y hy
  constructor
  · intro e
    subst e
    exact h1.1.trans h2.1.symm
  · intro c
    have a := h1.2.2 y h2.2.1 (c.trans h2.1)
    have b := h2.2.2 x h1.2.1 (c.symm.trans h1.1)
    omega
/-- A label is its own label. -/
theorem Lab.self {n : Nat} {E : List (Int × Int)} {l : List Int} (h : Lab n E l) {v : Nat} {x : Int} (hx : l[v]? = some x) : l[x.toNat]? = some x := by
  have h1 := h.lt hx
  have hi : x.toNat < l.length := by rw [h.1]; omega
  rw [List.getElem?_eq_getElem hi]
  have h2 := h.2 v x hx
  have hc : Con E (x.toNat : Int) v := by rw [Int.toNat_of_nonneg h1.1]; exact h2.1.symm
  rw [(h.iff (List.getElem?_eq_getElem hi) hx).2 hc]
/-- Labels without edges. -/
def lab0 (n : Nat) : List Int := (List.range n).map fun (i : Nat) => (i : Int)
theorem lab0_get {n v : Nat} {x : Int} (h : (lab0 n)[v]? = some x) : v < n ∧ x = v := by
  have hi := (List.getElem?_eq_some_iff.1 h).1
  simp only [lab0, List.length_map, List.length_range] at hi
  simp only [lab0, List.getElem?_map, List.getElem?_range hi, Option.map_some, Option.some.injEq] at h
  exact ⟨hi, h.symm⟩
theorem lab0_len (n : Nat) : (lab0 n).length = n := by simp [lab0]
theorem Lab.zero (n : Nat) : Lab n [] (lab0 n) := by
  refine ⟨lab0_len n, fun v x h => ?_⟩
  obtain ⟨_, rfl⟩ := lab0_get h
  exact ⟨.refl _, Int.natCast_nonneg v, fun u _ h => by rw [h.nil]; exact Int.le_refl _⟩
/-- Two labels made one. -/
def unL (l : List Int) (x y : Int) : List Int := l.map fun z => if z = (if y > x then y else x) then (if y < x then y else x) else z
theorem unL_len (l : List Int) (x y : Int) : (unL l x y).length = l.length := by simp [unL]
theorem unL_same (l : List Int) (x : Int) : unL l x x = l := by
  unfold unL
  conv => rhs; rw [← List.map_id l]
  apply List.map_congr_left
  intro z _
  simp only [gt_iff_lt, Int.lt_irrefl, if_false, id]
  split <;> simp_all
theorem Lab.union {n : Nat} {E : List (Int × Int)} {l : List Int} (h : Lab n E l) {a b : Nat} {x y : Int} (hx : l[a]? = some x) (hy : l[b]? = some y) : Lab n (E ++ [((a : Int), (b : Int))]) (unL l x y) := by
  refine ⟨by rw [unL_len, h.1], fun v z hz => ?_⟩
  simp only [unL, List.getElem?_map, Option.map_eq_some_iff] at hz
  obtain ⟨w, hw, hz⟩ := hz
  have hax := h.2 a x hx
  have hby := h.2 b y hy
  have hvw := h.2 v w hw
  have ew : ∀ {c : Nat} {t : Int}, l[c]? = some t → (w = t ↔ Con E v c) := fun hc => h.iff hw hc
  have hA := ew hx
  have hB := ew hy
  have hab : Con (E ++ [((a : Int), (b : Int))]) a b := .of (List.mem_append_right _ (List.mem_singleton.2 rfl))
  have hm : ∀ {s t : Int}, Con E s t → Con (E ++ [((a : Int), (b : Int))]) s t := fun h => h.mono fun e he => List.mem_append_left _ he
  by_cases hxy : x = y
  · subst hxy
    have hcab : Con E a b := (h.iff hx hy).1 rfl
    have : z = w := by
      subst hz
      simp only [gt_iff_lt, Int.lt_irrefl, if_false]
      split <;> simp_all
    subst this
    refine ⟨hm hvw.1, hvw.2.1, fun u hu hc => ?_⟩
    apply hvw.2.2 u hu
    rcases Con.snoc.1 hc with h1 | ⟨h1, h2⟩ | ⟨h1, h2⟩
    · exact h1
    · exact h1.trans (hcab.trans h2)
    · exact h1.trans (hcab.symm.trans h2)
  · have key : ∀ u : Int, 0 ≤ u → Con (E ++ [((a : Int), (b : Int))]) v u → (w ≤ u) ∨ (w = x ∧ y ≤ u) ∨ (w = y ∧ x ≤ u) := by
      intro u hu hc
      rcases Con.snoc.1 hc with h1 | ⟨h1, h2⟩ | ⟨h1, h2⟩
      · exact .inl (hvw.2.2 u hu h1)
      · exact .inr (.inl ⟨hA.2 h1, hby.2.2 u hu h2⟩)
      · exact .inr (.inr ⟨hB.2 h1, hax.2.2 u hu h2⟩)
    by_cases hwx : w = x
    · have hva := hA.1 hwx
      subst hwx
      by_cases hlt : y > w
      · rw [if_pos hlt, if_neg (by omega)] at hz
        subst hz
        refine ⟨hm hvw.1, hvw.2.1, fun u hu hc => ?_⟩
        rcases key u hu hc with h1 | h1 | h1 <;> omega
      · rw [if_neg hlt, if_pos rfl, if_pos (by omega)] at hz
        subst hz
        refine ⟨(hm hva).trans (hab.trans (hm hby.1)), hby.2.1, fun u hu hc => ?_⟩
        rcases key u hu hc with h1 | h1 | h1 <;> omega
    · by_cases hwy : w = y
      · have hvb := hB.1 hwy
        subst hwy
        by_cases hlt : w > x
        · rw [if_pos hlt, if_pos rfl, if_neg (by omega)] at hz
          subst hz
          refine ⟨(hm hvb).trans (hab.symm.trans (hm hax.1)), hax.2.1, fun u hu hc => ?_⟩
          rcases key u hu hc with h1 | h1 | h1 <;> omega
        · rw [if_neg hlt, if_neg hwx] at hz
          subst hz
          refine ⟨hm hvw.1, hvw.2.1, fun u hu hc => ?_⟩
          rcases key u hu hc with h1 | h1 | h1 <;> omega
      · rw [if_neg (by split <;> omega)] at hz
        subst hz
        refine ⟨hm hvw.1, hvw.2.1, fun u hu hc => ?_⟩
        rcases key u hu hc with h1 | h1 | h1 <;> omega
/-- One edge's part in the labels. -/
def unE (l : List Int) (e : Int × Int) : List Int := unL l (l.getD e.1.toNat 0) (l.getD e.2.toNat 0)
theorem unE_len (l : List Int) (e : Int × Int) : (unE l e).length = l.length := unL_len _ _ _
theorem Lab.unE {n : Nat} {E : List (Int × Int)} {l : List Int} (h : Lab n E l) {e : Int × Int} (he : 0 ≤ e.1 ∧ e.1 < n ∧ 0 ≤ e.2 ∧ e.2 < n) : Lab n (E ++ [e]) (unE l e) := by
  have h1 : e.1.toNat < l.length := by rw [h.1]; omega
  have h2 : e.2.toNat < l.length := by rw [h.1]; omega
  have := h.union (a := e.1.toNat) (b := e.2.toNat) (List.getElem?_eq_getElem h1) (List.getElem?_eq_getElem h2)
  rw [Int.toNat_of_nonneg he.1, Int.toNat_of_nonneg he.2.2.1] at this
  unfold Go.Fw.unE
  rw [List.getD_eq_getElem?_getD, List.getD_eq_getElem?_getD, List.getElem?_eq_getElem h1, List.getElem?_eq_getElem h2]
  exact this
theorem Lab.fold {n : Nat} : ∀ {D E : List (Int × Int)} {l : List Int}, Lab n E l → EIn n D → Lab n (E ++ D) (D.foldl Go.Fw.unE l)
  | [], E, l, h, _ => by simpa using h
  | e :: D, E, l, h, hD => by
    have := Lab.fold (D := D) (h.unE (hD e (List.mem_cons_self ..))) fun x hx => hD x (List.mem_cons_of_mem _ hx)
    rw [List.foldl_cons]
    rwa [List.append_assoc] at this
/-- The labels by edges. -/
def labs (n : Nat) (E : List (Int × Int)) : List Int := E.foldl unE (lab0 n)
theorem labs_ok {n : Nat} {E : List (Int × Int)} (h : EIn n E) : Lab n E (labs n E) := by
  have := (Lab.zero n).fold h
  simpa [labs] using this
theorem labs_len (n : Nat) (E : List (Int × Int)) : (labs n E).length = n := by
  have : ∀ (E : List (Int × Int)) (l : List Int), (E.foldl unE l).length = l.length := by
    intro E
    induction E with
    | nil => simp
    | cons e E ih => intro l; rw [List.foldl_cons, ih, unE_len]
  rw [labs, this, lab0_len]
/-- One edge's part in a round of labels that are made less and less. -/
def rlE (l : List Int) (e : Int × Int) : List Int :=
  let x := l.getD e.1.toNat 0
  let y := l.getD e.2.toNat 0
  let l := if x < y then l.set e.2.toNat x else l
  if y < x then l.set e.1.toNat y else l
theorem rlE_len (l : List Int) (e : Int × Int) : (rlE l e).length = l.length := by
  unfold rlE; simp only; split <;> split <;> simp
def lrnd (E : List (Int × Int)) (l : List Int) : List Int := E.foldl rlE l
theorem lrnd_len : ∀ (E : List (Int × Int)) (l : List Int), (lrnd E l).length = l.length
  | [], l => rfl
  | e :: E, l => by show (lrnd E (rlE l e)).length = _; rw [lrnd_len E, rlE_len]
section
variable {n : Nat} {E : List (Int × Int)} {L : List Int}
/-- On the way down to the labels. -/
def Dn (n : Nat) (E : List (Int × Int)) (l : List Int) : Prop := l.length = n ∧ ∀ (v : Nat) (x : Int), l[v]? = some x → Con E v x ∧ 0 ≤ x
theorem Dn.ge (hL : Lab n E L) {l : List Int} (h : Dn n E l) {v : Nat} {x y : Int} (hx : l[v]? = some x) (hy : L[v]? = some y) : y ≤ x :=
  (hL.2 v y hy).2.2 x (h.2 v x hx).2 (h.2 v x hx).1
theorem Dn.set {l : List Int} (h : Dn n E l) {v : Nat} {x : Int} (hc : Con E v x) (h0 : 0 ≤ x) : Dn n E (l.set v x) := by
  refine ⟨by simp [h.1], fun u y hu => ?_⟩
  rw [List.getElem?_set] at hu
  split at hu
  · subst v
    split at hu
    · cases hu; exact ⟨hc, h0⟩
    · cases hu
  · exact h.2 u y hu
theorem getD_at {l : List Int} {i : Nat} (h : i < l.length) : l[i]? = some (l.getD i 0) := by
  rw [List.getD_eq_getElem?_getD, List.getElem?_eq_getElem h]; rfl
/-- What an edge's part does. -/
theorem Dn.rlE (hL : Lab n E L) {l : List Int} (h : Dn n E l) {e : Int × Int} (hm : e ∈ E) (he : 0 ≤ e.1 ∧ e.1 < n ∧ 0 ≤ e.2 ∧ e.2 < n) :
    Dn n E (rlE l e) ∧ (∀ (v : Nat), (rlE l e).getD v 0 ≤ l.getD v 0) ∧
    (l.getD e.1.toNat 0 = L.getD e.1.toNat 0 → (rlE l e).getD e.2.toNat 0 = L.getD e.2.toNat 0) ∧
    (l.getD e.2.toNat 0 = L.getD e.2.toNat 0 → (rlE l e).getD e.1.toNat 0 = L.getD e.1.toNat 0) := by
  obtain ⟨h1, h2, h3, h4⟩ := he
  have i1 : e.1.toNat < l.length := by rw [h.1]; omega
  have i2 : e.2.toNat < l.length := by rw [h.1]; omega
  have j1 : e.1.toNat < L.length := by rw [hL.1]; omega
  have j2 : e.2.toNat < L.length := by rw [hL.1]; omega
  have c12 : Con E (e.1.toNat : Int) (e.2.toNat : Int) := by
    rw [Int.toNat_of_nonneg h1, Int.toNat_of_nonneg h3]; exact .of hm
  have hLe := (hL.iff (getD_at j1) (getD_at j2)).2 c12
  have a1 := h.2 _ _ (getD_at i1)
  have a2 := h.2 _ _ (getD_at i2)
  have g1 := h.ge hL (getD_at i1) (getD_at j1)
  have g2 := h.ge hL (getD_at i2) (getD_at j2)
  have gs : ∀ (i : Nat) (z : Int) (v : Nat), i < l.length → (l.set i z).getD v 0 = if i = v then z else l.getD v 0 := by
    intro i z v hi
    rw [List.getD_eq_getElem?_getD, List.getElem?_set]
    split
    · subst v; simp
    · rw [List.getD_eq_getElem?_getD]
  unfold Go.Fw.rlE
  simp only
  by_cases hlt : l.getD e.1.toNat 0 < l.getD e.2.toNat 0
  · rw [if_pos hlt, if_neg (by omega)]
    refine ⟨h.set (c12.symm.trans a1.1) a1.2, fun v => ?_, fun hd => ?_, fun hd => ?_⟩
    · rw [gs _ _ _ i2]
      split
      · subst v; omega
      · exact Int.le_refl _
    · rw [gs _ _ _ i2, if_pos rfl]; omega
    · omega
  · rw [if_neg hlt]
    by_cases hgt : l.getD e.2.toNat 0 < l.getD e.1.toNat 0
    · rw [if_pos hgt]
      refine ⟨h.set (c12.trans a2.1) a2.2, fun v => ?_, fun hd => ?_, fun hd => ?_⟩
      · rw [gs _ _ _ i1]
        split
        · subst v; omega
        · exact Int.le_refl _
      · omega
      · rw [gs _ _ _ i1, if_pos rfl]; omega
    · rw [if_neg hgt]
      refine ⟨h, fun v => Int.le_refl _, fun hd => ?_, fun hd => ?_⟩ <;> omega
theorem Dn.rnd (hL : Lab n E L) (hE : EIn n E) : ∀ (D : List (Int × Int)) (l : List Int), (∀ e, e ∈ D → e ∈ E) → Dn n E l →
    Dn n E (lrnd D l) ∧ (∀ v : Nat, (lrnd D l).getD v 0 ≤ l.getD v 0) ∧
    ∀ e, e ∈ D → (l.getD e.1.toNat 0 = L.getD e.1.toNat 0 → (lrnd D l).getD e.2.toNat 0 = L.getD e.2.toNat 0) ∧ (l.getD e.2.toNat 0 = L.getD e.2.toNat 0 → (lrnd D l).getD e.1.toNat 0 = L.getD e.1.toNat 0)
  | [], l, _, h => ⟨h, fun v => Int.le_refl _, fun e he => by cases he⟩
  | e :: D, l, hs, h => by
    have hm := hs e (List.mem_cons_self ..)
    obtain ⟨h1, h2, h3, h4⟩ := h.rlE hL hm (hE e hm)
    obtain ⟨k1, k2, k3⟩ := Dn.rnd hL hE D (Go.Fw.rlE l e) (fun x hx => hs x (List.mem_cons_of_mem _ hx)) h1
    -- what is done stays done
    have dn : ∀ {l' : List Int} (v : Nat), v < n → Dn n E l' → (∀ u : Nat, l'.getD u 0 ≤ l.getD u 0) → l.getD v 0 = L.getD v 0 → l'.getD v 0 = L.getD v 0 := by
      intro l' v hv hl' hle hd
      have hg := hl'.ge hL (getD_at (l := l') (i := v) (by rw [hl'.1]; exact hv)) (getD_at (l := L) (i := v) (by rw [hL.1]; exact hv))
      have := hle v
      omega
    have dn' : ∀ (v : Nat), v < n → (Go.Fw.rlE l e).getD v 0 = L.getD v 0 → (Go.Fw.lrnd D (Go.Fw.rlE l e)).getD v 0 = L.getD v 0 := by
      intro v hv hd
      have hg := k1.ge hL (getD_at (i := v) (by rw [k1.1]; exact hv)) (getD_at (l := L) (i := v) (by rw [hL.1]; exact hv))
      have := k2 v
      omega
    refine ⟨k1, fun v => Int.le_trans (k2 v) (h2 v), fun e' he' => ?_⟩
    rcases List.mem_cons.1 he' with rfl | he'
    · have hb := hE _ hm
      exact ⟨fun hd => dn' _ (by omega) (h3 hd), fun hd => dn' _ (by omega) (h4 hd)⟩
    · have hb := hE _ (hs e' (List.mem_cons_of_mem _ he'))
      exact ⟨fun hd => (k3 e' he').1 (dn _ (by omega) h1 h2 hd), fun hd => (k3 e' he').2 (dn _ (by omega) h1 h2 hd)⟩
/-- How many vertices have their label. -/
def cntD (n : Nat) (L l : List Int) : Nat := (List.range n).countP fun v => decide (l.getD v 0 = L.getD v 0)
theorem countP_lt {p q : Nat → Bool} : ∀ {m : List Nat}, (∀ x, x ∈ m → p x = true → q x = true) → (∃ x, x ∈ m ∧ p x = false ∧ q x = true) → m.countP p < m.countP q
  | [], _, ⟨x, hx, _⟩ => by cases hx
  | a :: m, h, ⟨x, hx, hp, hq⟩ => by
    rw [List.countP_cons, List.countP_cons]
    have hle : m.countP p ≤ m.countP q := List.countP_mono_left fun y hy => h y (List.mem_cons_of_mem _ hy)
    rcases List.mem_cons.1 hx with rfl | hx
    · rw [if_neg (by simp [hp]), if_pos hq]; omega
    · have := countP_lt (fun y hy => h y (List.mem_cons_of_mem _ hy)) ⟨x, hx, hp, hq⟩
      have ha := h a (List.mem_cons_self ..)
      cases hpa : p a with
      | true => rw [ha hpa]; simp; omega
      | false => cases hqa : q a <;> simp <;> omega
theorem con_step {D : Int → Prop} {u v : Int} (h : Con E u v) (hu : D u) (hv : ¬ D v) : ∃ x y : Int, D x ∧ ¬ D y ∧ ((x, y) ∈ E ∨ (y, x) ∈ E) := by
  induction h with
  | refl => exact absurd hu hv
  | @fwd a b _ he ih =>
    by_cases hb : D a
    · exact ⟨_, _, hb, hv, .inl he⟩
    · exact ih hb
  | @bwd a b _ he ih =>
    by_cases hb : D a
    · exact ⟨_, _, hb, hv, .inr he⟩
    · exact ih hb
def lrnds (E : List (Int × Int)) : Nat → List Int → List Int
  | 0, l => l
  | k + 1, l => lrnds E k (Go.Fw.lrnd E l)
/-- A round that does not end it makes one more vertex right. -/
theorem lrnd_more (hL : Lab n E L) (hE : EIn n E) {l : List Int} (h : Dn n E l) (hs : ∀ v : Nat, v < n → L.getD v 0 = v → l.getD v 0 = v) (hne : l ≠ L) :
    cntD n L l < cntD n L (Go.Fw.lrnd E l) := by
  obtain ⟨k1, k2, k3⟩ := Dn.rnd hL hE E l (fun _ h => h) h
  have stay : ∀ v : Nat, v < n → l.getD v 0 = L.getD v 0 → (Go.Fw.lrnd E l).getD v 0 = L.getD v 0 := by
    intro v hv hd
    have hg := k1.ge hL (getD_at (i := v) (by rw [k1.1]; exact hv)) (getD_at (l := L) (i := v) (by rw [hL.1]; exact hv))
    have := k2 v
    omega
  have : ∃ v : Nat, v < n ∧ l.getD v 0 ≠ L.getD v 0 := by
    apply Classical.byContradiction
    intro hn
    apply hne
    apply List.ext_getElem?
    intro i
    by_cases hi : i < n
    · rw [getD_at (l := l) (i := i) (by rw [h.1]; exact hi), getD_at (l := L) (i := i) (by rw [hL.1]; exact hi)]
      congr 1
      exact Classical.byContradiction fun hc => hn ⟨i, hi, hc⟩
    · rw [List.getElem?_eq_none (by rw [h.1]; omega), List.getElem?_eq_none (by rw [hL.1]; omega)]
  obtain ⟨v, hv, hnd⟩ := this
  have gL := getD_at (l := L) (i := v) (by rw [hL.1]; exact hv)
  have hm := hL.lt gL
  have hself := hL.self gL
  have hcon := (hL.2 v _ gL).1
  obtain ⟨x, y, hx, hy, he⟩ := con_step (D := fun z : Int => 0 ≤ z ∧ z < n ∧ l.getD z.toNat 0 = L.getD z.toNat 0) hcon.symm
    ⟨hm.1, hm.2, by
      have e1 : L.getD (L.getD v 0).toNat 0 = L.getD v 0 := by rw [List.getD_eq_getElem?_getD (i := (L.getD v 0).toNat), hself]; rfl
      rw [e1, hs (L.getD v 0).toNat (by omega) (by rw [e1]; omega)]; omega⟩
    (fun hd => hnd (by simpa using hd.2.2))
  refine countP_lt (fun z hz hp => ?_) ⟨y.toNat, ?_, ?_, ?_⟩
  · simp only [decide_eq_true_eq] at hp ⊢
    exact stay z (List.mem_range.1 hz) hp
  · rw [List.mem_range]
    rcases he with he | he <;> have := hE _ he <;> simp only at this <;> omega
  · simp only [decide_eq_false_iff_not]
    intro hd
    apply hy
    rcases he with he | he <;> have := hE _ he <;> simp only at this <;> exact ⟨by omega, by omega, hd⟩
  · simp only [decide_eq_true_eq]
    rcases he with he | he
    · exact (k3 _ he).1 hx.2.2
    · exact (k3 _ he).2 hx.2.2
theorem lrnds_end (hL : Lab n E L) (hE : EIn n E) : ∀ (k : Nat) (l : List Int), Dn n E l → (∀ v : Nat, v < n → L.getD v 0 = v → l.getD v 0 = v) → n ≤ cntD n L l + k → lrnds E k l = L
  | 0, l, h, hs, hc => by
    have hall : cntD n L l = n := by
      have : cntD n L l ≤ (List.range n).length := List.countP_le_length
      rw [List.length_range] at this; omega
    apply Classical.byContradiction
    intro hne
    have := lrnd_more hL hE h hs hne
    have : cntD n L (Go.Fw.lrnd E l) ≤ (List.range n).length := List.countP_le_length
    rw [List.length_range] at this
    omega
  | k + 1, l, h, hs, hc => by
    obtain ⟨k1, k2, _⟩ := Dn.rnd hL hE E l (fun _ h => h) h
    refine lrnds_end hL hE k (Go.Fw.lrnd E l) k1 (fun v hv e => ?_) ?_
    · have hg := k1.ge hL (getD_at (i := v) (by rw [k1.1]; exact hv)) (getD_at (l := L) (i := v) (by rw [hL.1]; exact hv))
      have := k2 v
      have := hs v hv e
      omega
    · by_cases hne : l = L
      · subst hne
        have : cntD n l (Go.Fw.lrnd E l) = n := by
          unfold cntD
          rw [show n = (List.range n).length from by simp, ← List.length_range (n := n), List.countP_eq_length.2]
          · simp
          · intro v hv
            simp only [List.length_range, List.mem_range] at hv
            simp only [decide_eq_true_eq]
            have hg := k1.ge hL (getD_at (i := v) (by rw [k1.1]; exact hv)) (getD_at (l := l) (i := v) (by rw [hL.1]; exact hv))
            have := k2 v
            omega
        omega
      · have := lrnd_more hL hE h hs hne
        omega
/-- So many rounds as there are vertices make the labels. -/
theorem lrnds_labs (hE : EIn n E) : lrnds E n (lab0 n) = labs n E := by
  refine lrnds_end (labs_ok hE) hE n (lab0 n) ⟨lab0_len n, fun v x h => ?_⟩ (fun v hv e => ?_) (by omega)
  · obtain ⟨_, rfl⟩ := lab0_get h
    exact ⟨.refl _, Int.natCast_nonneg v⟩
  · have := getD_at (l := lab0 n) (i := v) (by rw [lab0_len]; exact hv)
    exact (lab0_get this).2
end
theorem h_sl01In (a b c : Int) : g_sl01In (a, b, c) = some (decide (b ≤ a) && decide (a ≤ c), ()) := by
  show f_sl01In BIG _ = _
  rw [e_sl01In]
  cases decide (b ≤ a) <;> rfl
theorem h_iin (a b c : Int) : g_iin (a, b, c) = some (decide (b ≤ a) && decide (a ≤ c), ()) := by
  show f_iin BIG _ = _
  rw [e_iin]
  cases decide (b ≤ a) <;> rfl
abbrev Ed := Int × Int
theorem foldl_filter {α : Type} (p : α → Bool) : ∀ (l : List α) (s : List α), l.foldl (fun s y => if p y then s ++ [y] else s) s = s ++ l.filter p
  | [], s => by simp
  | y :: l, s => by
    rw [List.foldl_cons, foldl_filter p l]
    cases h : p y <;> simp [h]
abbrev Sd := Int × Int × Int × Int × Int × Int
def inB (a b c : Int) : Bool := decide (b ≤ a) && decide (a ≤ c)
theorem h_sl01In' (a b c : Int) : g_sl01In (a, b, c) = some (inB a b c, ()) := h_sl01In a b c
theorem h_iin' (a b c : Int) : g_iin (a, b, c) = some (inB a b c, ()) := h_iin a b c
theorem inB_t {a b c : Int} : inB a b c = true ↔ b ≤ a ∧ a ≤ c := by simp [inB]
def edB (n : Int) (e : Ed) : Bool := inB n 1 12 && (inB e.1 0 (n - 1) && (inB e.2 0 (n - 1) && decide (e.1 < e.2)))
theorem h_iEdgeOk (n : Int) (e : Ed) : g_iEdgeOk (n, e) = some (edB n e, ()) := by
  show f_iEdgeOk BIG _ = _
  rw [e_iEdgeOk, h_iin', Option.bind_some]
  unfold edB
  cases h : inB n 1 12 with
  | false => rfl
  | true =>
    have := inB_t.1 h
    rw [wr (by omega) (by omega)]
    simp only [h_iin', Option.bind_some, cond_true, Bool.true_and]
    cases inB e.1 0 (n - 1) <;> cases inB e.2 0 (n - 1) <;> rfl
def lsB (x y : Ed) : Bool := decide (x.1 < y.1) || (decide (x.1 = y.1) && decide (x.2 < y.2))
theorem h_iahead (x y : Ed) : g_iahead (x, y) = some (lsB x y, ()) := by
  show f_iahead BIG _ = _
  rw [e_iahead]
  unfold lsB
  cases decide (x.1 < y.1) <;> cases decide (x.1 = y.1) <;> rfl
def eP (n : Int) (es : List Ed) (i : Nat) : Bool := match es[i]? with
  | some y => edB n y && (match i with
    | 0 => true
    | j + 1 => match es[j]? with
      | some x => lsB x y
      | none => false)
  | none => false
theorem eP_0 {n : Int} {es : List Ed} {y : Ed} (h : es[0]? = some y) : eP n es 0 = edB n y := by
  unfold eP; rw [h]; simp
theorem eP_s {n : Int} {es : List Ed} {x y : Ed} {j : Nat} (h : es[j + 1]? = some y) (h' : es[j]? = some x) : eP n es (j + 1) = (edB n y && lsB x y) := by
  unfold eP; rw [h]; simp only [h']
def eOk (n : Int) (es : List Ed) : Bool := if ∀ i, i < es.length → eP n es i = true then decide ((es.length : Int) ≤ 66) else false
theorem eOk_len {n : Int} {es : List Ed} (h : eOk n es = true) : es.length ≤ 66 := by
  unfold eOk at h
  split at h
  · rw [decide_eq_true_eq] at h; omega
  · cases h
theorem h_iedgesOk (n : Int) (es : List Ed) (hl : es.length ≤ 1048576) : g_iedgesOk (n, es) = some (eOk n es, ()) := by
  have hm : maxLen = 9223372036854775807 := by decide
  show f_iedgesOk BIG _ = _
  rw [e_iedgesOk, allLoop es (by omega) (eP n es) false]
  · unfold eOk
    split <;> rfl
  · intro self i y hy
    have hi := (List.getElem?_eq_some_iff.1 hy).1
    simp only [show ((i : Int) < (es.length : Int)) from by omega, decide_true, cond_true]
    rw [bnd_nat hi, hy, Option.bind_some, h_iEdgeOk, wr1 (by omega)]
    cases i with
    | zero =>
      rw [eP_0 hy]
      cases edB n y <;> simp
    | succ j =>
      have hj : es[j]? = some (es[j]'(by omega)) := List.getElem?_eq_getElem (by omega)
      rw [eP_s hy hj, show (((j + 1 : Nat) : Int) - 1) = (j : Int) from by omega, wr (n := (j : Int)) (by omega) (by omega)]
      cases hb : edB n y with
      | false => simp
      | true =>
        simp only [Option.bind_some, Bool.not_true, cond_false, show (0 : Int) < ((j + 1 : Nat) : Int) from by omega, decide_true, cond_true, Bool.true_and]
        rw [bnd_nat (by omega), hj]
        simp only [Option.bind_some]
        simp only [Option.bind_some, h_iahead]
        cases lsB _ y <;> rfl
  · intro self
    simp
abbrev Or' := Int × Int × List (Int × Int) × Int
def ordB (n : Int) (o : Or') : Bool := inB n 1 12 && (inB o.1 1 100000 && (inB o.2.1 1 4 && (eOk n o.2.2.1 && (if o.2.1 = 3 then decide (o.2.2.1.length = 0) && inB o.2.2.2 0 (n - 1) else if o.2.1 = 4 then decide (0 < o.2.2.1.length) && decide (o.2.2.2 = 0) else decide (o.2.2.1.length = 1) && decide (o.2.2.2 = 0)))))
theorem h_iOrderOk (n : Int) (o : Or') (hl : o.2.2.1.length ≤ 1048576) : g_iOrderOk (n, o) = some (ordB n o, ()) := by
  show f_iOrderOk BIG _ = _
  rw [e_iOrderOk]
  simp only [h_iin', h_iedgesOk n _ hl, Option.bind_some]
  unfold ordB
  cases h : inB n 1 12 with
  | false => rfl
  | true =>
    have := inB_t.1 h
    rw [wr (by omega) (by omega)]
    cases h1 : inB o.1 1 100000 with
    | false => rfl
    | true =>
      cases h3 : eOk n o.2.2.1 with
      | false => simp
      | true =>
        simp only [Bool.not_true, cond_false, Option.bind_some, Bool.true_and]
        by_cases k3 : o.2.1 = 3
        · have h2 : inB o.2.1 1 4 = true := inB_t.2 (by omega)
          rw [h2, if_pos k3, decide_eq_true k3]
          rw [decide_eq_false (by omega : ¬ o.2.1 = 1), decide_eq_false (by omega : ¬ o.2.1 = 2)]
          by_cases hz : o.2.2.1.length = 0
          · rw [decide_eq_true hz, decide_eq_true (show (o.2.2.1.length : Int) = 0 from by omega)]; by_cases hv : o.2.2.2 = 0 <;> simp [hv]
          · rw [decide_eq_false hz, decide_eq_false (show ¬ (o.2.2.1.length : Int) = 0 from by omega)]; by_cases hv : o.2.2.2 = 0 <;> simp [hv]
        · rw [if_neg k3, decide_eq_false k3]
          by_cases hv : o.2.2.2 = 0
          · simp only [hv, decide_true, Bool.not_true, cond_false, Option.bind_some, Bool.and_true]
            by_cases k4 : o.2.1 = 4
            · have h2 : inB o.2.1 1 4 = true := inB_t.2 (by omega)
              rw [h2, if_pos k4, decide_eq_true k4, decide_eq_false (by omega : ¬ o.2.1 = 1), decide_eq_false (by omega : ¬ o.2.1 = 2)]
              simp
            · rw [if_neg k4, decide_eq_false k4]
              by_cases k1 : o.2.1 = 1
              · have h2 : inB o.2.1 1 4 = true := inB_t.2 (by omega)
                rw [h2, decide_eq_true k1]
                simp
                omega
              · by_cases k2 : o.2.1 = 2
                · have h2 : inB o.2.1 1 4 = true := inB_t.2 (by omega)
                  rw [h2, decide_eq_false k1, decide_eq_true k2]
                  simp
                  omega
                · have h2 : inB o.2.1 1 4 = false := by
                    cases hh : inB o.2.1 1 4 with
                    | false => rfl
                    | true => have := inB_t.1 hh; omega
                  rw [h2, decide_eq_false k1, decide_eq_false k2]
                  rfl
          · simp [hv]
def lbP (l : List Int) (i : Nat) : Bool := match l[i]? with
  | some y => inB y 0 i && (match l[y.toNat]? with
    | some z => decide (z = y)
    | none => false)
  | none => false
theorem lbP_eq {l : List Int} {i : Nat} {y z : Int} (h : l[i]? = some y) (h' : l[y.toNat]? = some z) : lbP l i = (inB y 0 i && decide (z = y)) := by
  unfold lbP; rw [h]; simp only [h']
theorem lbP_f {l : List Int} {i : Nat} {y : Int} (h : l[i]? = some y) (h' : inB y 0 i = false) : lbP l i = false := by
  unfold lbP; rw [h]; simp only [h', Bool.false_and]
def lbOk (n : Int) (l : List Int) : Bool := if (l.length : Int) = n then (if ∀ i, i < l.length → lbP l i = true then true else false) else false
theorem h_ilabelsOk (n : Int) (l : List Int) (hl : l.length ≤ 1048576) : g_ilabelsOk (n, l) = some (lbOk n l, ()) := by
  have hm : maxLen = 9223372036854775807 := by decide
  show f_ilabelsOk BIG _ = _
  rw [e_ilabelsOk]
  unfold lbOk
  by_cases hn : (l.length : Int) = n
  · rw [if_pos hn, decide_eq_true hn, Bool.not_true, cond_false, allLoop l (by omega) (lbP l) false]
    · split <;> rfl
    · intro self i y hy
      have hi := (List.getElem?_eq_some_iff.1 hy).1
      simp only [show ((i : Int) < (l.length : Int)) from by omega, decide_true, cond_true]
      rw [bnd_nat hi, hy, Option.bind_some, h_iin', wr1 (by omega)]
      cases hb : inB y 0 (i : Int) with
      | false => rw [lbP_f hy hb]; simp
      | true =>
        have := inB_t.1 hb
        have hz : l[y.toNat]? = some (l[y.toNat]'(by omega)) := List.getElem?_eq_getElem (by omega)
        rw [lbP_eq hy hz, hb]
        simp only [Option.bind_some, Bool.not_true, cond_false, Bool.true_and]
        rw [bnd_ok (by omega) (by omega), hz]
        simp only [Option.bind_some]
        by_cases hd : l[y.toNat]'(by omega) = y <;> simp [hd]
    · intro self
      simp
  · rw [if_neg hn, decide_eq_false hn]; rfl
theorem lsB_irrefl (x : Ed) : lsB x x = false := by simp [lsB]
theorem lsB_iff (x y : Ed) : lsB x y = true ↔ x.1 < y.1 ∨ (x.1 = y.1 ∧ x.2 < y.2) := by simp [lsB]
theorem lsB_trans {x y z : Ed} (h : lsB x y = true) (h' : lsB y z = true) : lsB x z = true := by
  rw [lsB_iff] at *; omega
theorem lsB_tri {x y : Ed} (h : lsB x y = false) (h' : lsB y x = false) : x = y := by
  have h1 : ¬ lsB x y = true := by simp [h]
  have h2 : ¬ lsB y x = true := by simp [h']
  rw [lsB_iff] at h1 h2
  exact Prod.ext (by omega) (by omega)
theorem lsB_asymm {x y : Ed} (h : lsB x y = true) : lsB y x = false := by
  cases h' : lsB y x with
  | false => rfl
  | true => have := lsB_trans h h'; rw [lsB_irrefl] at this; cases this
abbrev Srt (l : List Ed) : Prop := l.Pairwise (fun x y => lsB x y = true)
def ins (l : List Ed) (e : Ed) : List Ed := l.filter (fun y => lsB y e) ++ [e] ++ l.filter (fun y => lsB e y)
theorem ins_mem {l : List Ed} {e x : Ed} : x ∈ ins l e ↔ x = e ∨ x ∈ l := by
  simp only [ins, List.mem_append, List.mem_filter, List.mem_singleton]
  constructor
  · rintro ((h | h) | h)
    · exact .inr h.1
    · exact .inl h
    · exact .inr h.1
  · rintro (h | h)
    · exact .inl (.inr h)
    · cases h1 : lsB x e with
      | true => exact .inl (.inl ⟨h, rfl⟩)
      | false =>
        cases h2 : lsB e x with
        | true => exact .inr ⟨h, rfl⟩
        | false => exact .inl (.inr (lsB_tri h1 h2))
theorem ins_srt {l : List Ed} {e : Ed} (h : Srt l) : Srt (ins l e) := by
  simp only [ins, Srt, List.append_assoc, List.pairwise_append, List.singleton_append, List.pairwise_cons]
  refine ⟨h.filter _, ⟨fun y hy => (List.mem_filter.1 hy).2, h.filter _⟩, fun x hx y hy => ?_⟩
  have h1 := (List.mem_filter.1 hx).2
  rcases List.mem_cons.1 hy with hy | hy
  · subst hy; exact h1
  · exact lsB_trans h1 (List.mem_filter.1 hy).2
/-- How many of the first ones are ahead of it. -/
def fdI : List Ed → Ed → Nat
  | [], _ => 0
  | y :: l, e => if lsB y e then fdI l e + 1 else 0
theorem fdI_ins {l : List Ed} {e : Ed} (h : Srt l) (hne : e ∉ l) : l.take (fdI l e) ++ [e] ++ l.drop (fdI l e) = ins l e := by
  induction l with
  | nil => rfl
  | cons y l ih =>
    rw [Srt, List.pairwise_cons] at h
    have ih := ih h.2 (fun hh => hne (by simp [hh]))
    cases h1 : lsB y e with
    | true =>
      have h2 := lsB_asymm h1
      simp only [fdI, h1, if_true, List.take_succ_cons, List.drop_succ_cons, List.cons_append, ih]
      simp only [ins, List.filter_cons, h1, h2, if_true, List.cons_append]
      simp
    | false =>
      have h2 : lsB e y = true := by
        cases h2 : lsB e y with
        | true => rfl
        | false => exact absurd (lsB_tri h1 h2).symm (fun hh => hne (by simp [hh]))
      have h3 : ∀ z, z ∈ l → lsB z e = false ∧ lsB e z = true := fun z hz => by
        have := lsB_trans h2 (h.1 z hz)
        exact ⟨lsB_asymm this, this⟩
      have f1 : l.filter (fun y => lsB y e) = [] := by
        rw [List.filter_eq_nil_iff]; intro z hz; simp [(h3 z hz).1]
      have f2 : l.filter (fun y => lsB e y) = l := by
        rw [List.filter_eq_self]; intro z hz; exact (h3 z hz).2
      simp only [fdI, h1, ins, List.filter_cons, h2, if_true, f1, f2]
      simp
theorem h_sl05Has (l : List Ed) (e : Ed) (hl : l.length ≤ maxLen) : g_sl05Has (l, e) = some (decide (e ∈ l), ()) := by
  show f_sl05Has BIG _ = _
  rw [e_sl05Has, allLoop l (Nat.lt_of_le_of_lt hl maxLen_lt) (fun i => decide (l[i]? ≠ some e)) true (fun self i y hy => by
      have hi := (List.getElem?_eq_some_iff.1 hy).1
      simp only [show ((i : Int) < (l.length : Int)) from by omega, decide_true, cond_true]
      rw [bnd_nat hi, hy, Option.bind_some, wr1 (by omega)]
      obtain ⟨y1, y2⟩ := y
      obtain ⟨e1, e2⟩ := e
      by_cases h1 : y1 = e1 <;> by_cases h2 : y2 = e2 <;> simp [h1, h2]) (fun self => by simp)]
  by_cases h : e ∈ l
  · rw [if_neg, decide_eq_true h]
    · rfl
    · intro hh
      obtain ⟨i, hi⟩ := List.getElem?_of_mem h
      have := hh i (List.getElem?_eq_some_iff.1 hi).1
      rw [decide_eq_true_eq] at this
      exact this hi
  · rw [if_pos, decide_eq_false h]
    · rfl
    · intro i hi
      rw [decide_eq_true_eq]
      exact fun hh => h (List.mem_of_getElem? hh)
theorem h_ihasEdge (l : List Ed) (e : Ed) (hl : l.length ≤ maxLen) : g_ihasEdge (l, e) = some (decide (e ∈ l), ()) := by
  rw [← h_sl05Has l e hl]
  show f_ihasEdge BIG _ = f_sl05Has BIG _
  rw [e_ihasEdge, e_sl05Has]
  all_goals rfl
theorem fdI_le : ∀ (l : List Ed) (e : Ed), fdI l e ≤ l.length
  | [], _ => by simp [fdI]
  | y :: l, e => by
    have := fdI_le l e
    simp only [fdI, List.length_cons]
    split <;> omega
theorem fdI_at : ∀ {l : List Ed} {e y : Ed} {i : Nat}, i ≤ fdI l e → l[i]? = some y → lsB y e = decide (i < fdI l e)
  | [], _, _, _, _, hy => by simp at hy
  | z :: l, e, y, i, hi, hy => by
    cases hz : lsB z e with
    | false =>
      simp only [fdI, hz] at hi ⊢
      have : i = 0 := by simpa using hi
      subst this
      simp only [List.getElem?_cons_zero, Option.some.injEq] at hy
      subst hy
      simp [hz]
    | true =>
      simp only [fdI, hz, if_true] at hi ⊢
      cases i with
      | zero =>
        simp only [List.getElem?_cons_zero, Option.some.injEq] at hy
        subst hy
        simp [hz]
      | succ i =>
        simp only [List.getElem?_cons_succ] at hy
        rw [fdI_at (by omega) hy]
        simp
theorem h_iwithEdge (l : List Ed) (e : Ed) (hl : l.length ≤ 1048576) : g_iwithEdge (l, e) = some (l.take (fdI l e) ++ [e] ++ l.drop (fdI l e), ()) := by
  have hm : maxLen = 9223372036854775807 := by decide
  have hle := fdI_le l e
  show f_iwithEdge BIG _ = _
  rw [e_iwithEdge, loop_eq (fun (x : Int) => ∃ i : Nat, x = i ∧ i ≤ fdI l e) (fun (x : Int) => l.length - x.toNat) (fun _ => ((fdI l e : Nat) : Int)) (fun self x ⟨i, h1, h2⟩ hs => by
    subst h1
    by_cases hi : i < l.length
    · have hy := List.getElem?_eq_getElem hi
      have hat := fdI_at h2 hy
      simp only [show ((i : Int) < (l.length : Int)) from by omega, decide_true, cond_true]
      simp only [bnd_nat hi, hy, Option.bind_some, h_iahead, wr1 (show i < maxLen from by omega), hat]
      by_cases hlt : i < fdI l e
      · rw [decide_eq_true hlt, cond_true]
        exact hs _ ⟨i + 1, rfl, hlt⟩ (by simp; omega)
      · rw [decide_eq_false hlt, cond_false]
        have : i = fdI l e := by omega
        rw [← this]
    · have : i = l.length := by omega
      have h3 : fdI l e = i := by omega
      rw [h3, this]
      simp) (n := BIG) (x := 0) (by simp [BIG]; omega) ⟨0, rfl, by omega⟩]
  simp only [Option.bind_some, Int.toNat_natCast, Nat.sub_zero, List.drop_zero]
  rw [decide_eq_true (by omega), cond_true, decide_eq_true (by omega), cond_true, decide_eq_true (by simp; omega), cond_true, decide_eq_true (by simp; omega), cond_true, cond_true, decide_eq_true (by omega), cond_true, decide_eq_true (by simp; omega), cond_true]
  congr 3
  rw [List.take_of_length_le]
  simp
/-- A walk that may fail. -/
def fM {S α : Type} (st : S → α → Option S) : S → List α → Option S
  | s, [] => some s
  | s, y :: l => (st s y).bind fun s' => fM st s' l
theorem exitLoop {α S B : Type} (a : List α) (hl : a.length < 18446744073709551616) {F : (S × Int → Option (S ⊕ B)) → S × Int → Option (S ⊕ B)} (I : Nat → S → Prop) (st : S → α → Option S) (b : B) {s0 : S} (h0 : I 0 s0)
    (hI : ∀ i s y s', a[i]? = some y → I i s → st s y = some s' → I (i + 1) s')
    (hF : ∀ self s (i : Nat) y, a[i]? = some y → I i s → F self (s, (i : Int)) = match st s y with
      | some s' => self (s', ((i + 1 : Nat) : Int))
      | none => some (.inr b))
    (hE : ∀ self s, I a.length s → F self (s, (a.length : Int)) = some (.inl s)) : loopT BIG F (s0, 0) = some (match fM st s0 a with
      | some s => .inl s
      | none => .inr b) := by
  have := loop_eq (F := F) (fun x => ∃ i : Nat, x.2 = i ∧ i ≤ a.length ∧ I i x.1) (fun x => a.length - x.2.toNat) (fun x => match fM st x.1 (a.drop x.2.toNat) with
      | some s => .inl s
      | none => .inr b) (fun self x ⟨i, h1, h2, h3⟩ hs => ?_) (n := BIG) (x := (s0, 0)) (by simp; exact hl) ⟨0, rfl, by simp, h0⟩
  · simpa using this
  · obtain ⟨s, j⟩ := x
    simp only at h1 h2 h3
    subst h1
    by_cases hi : i < a.length
    · have hy := List.getElem?_eq_getElem hi
      rw [hF self s i a[i] hy h3]
      simp only [Int.toNat_natCast]
      rw [List.drop_eq_getElem_cons hi]
      simp only [fM]
      cases hst : st s a[i] with
      | none => rfl
      | some s' =>
        simp only [Option.bind_some]
        rw [hs _ ⟨i + 1, rfl, hi, hI _ _ _ _ hy h3 hst⟩ (by simp; omega)]
        simp
    · have : i = a.length := by omega
      subst this
      rw [hE self s h3]
      simp [fM]
theorem and255 (n : Int) : bits .and .i64 n 255 = n % 256 := by
  have h255 : (BitVec.ofInt 64 255).toNat = 2 ^ 8 - 1 := by decide
  have key : (BitVec.ofInt 64 n &&& BitVec.ofInt 64 255).toNat = (n % ((2 ^ 64 : Nat) : Int)).toNat % 2 ^ 8 := by
    rw [BitVec.toNat_and, BitVec.toNat_ofInt, h255, Nat.and_two_pow_sub_one_eq_mod]
  show IntKind.i64.wrap ((BitVec.ofInt 64 n &&& BitVec.ofInt 64 255).toNat : Nat) = n % 256
  rw [key, IntKind.wrap_i64]
  omega
abbrev Cur := List Int × Int × Int
def curOk (c : Cur) : Prop := c.1.length ≤ 1048576 ∧ 0 ≤ c.2.1 ∧ c.2.1 ≤ c.1.length
theorem h_sl01Byte (c : Cur) (hc : curOk c) : ∃ r c', g_sl01Byte c = some (r, c') ∧ curOk c' ∧ 0 ≤ r ∧ r ≤ 255 := by
  have e : g_sl01Byte c = f_sl01Byte BIG c := rfl
  obtain ⟨h1, h2, h3⟩ := hc
  rw [e, e_sl01Byte, decide_eq_false (by decide), cond_false, decide_eq_false (by decide), cond_false]
  simp only [and255]
  by_cases h : c.2.1 < c.1.length
  · rw [decide_eq_true h, cond_true, bnd_ok h2 h, List.getElem?_eq_getElem (by omega), Option.bind_some, Option.bind_some]
    refine ⟨_, _, rfl, ⟨h1, ?_, ?_⟩, Int.emod_nonneg _ (by decide), by omega⟩
    · show 0 ≤ IntKind.wrap .i64 (c.2.1 + 1)
      rw [wr (by omega) (by omega)]; omega
    · show IntKind.wrap .i64 (c.2.1 + 1) ≤ _
      rw [wr (by omega) (by omega)]
      show c.2.1 + 1 ≤ (c.1.length : Int)
      omega
  · rw [decide_eq_false h, cond_false, Option.bind_some]
    exact ⟨_, _, rfl, ⟨h1, h2, h3⟩, Int.emod_nonneg _ (by decide), by omega⟩
theorem h_sl01Below (c : Cur) (n : Int) (hc : curOk c) (hn : n ≤ 1000000) : ∃ r c', g_sl01Below (c, n) = some (r, c') ∧ curOk c' ∧ 0 ≤ r ∧ (0 < n → r < n) ∧ (n ≤ 0 → r = 0) := by
  have e : g_sl01Below (c, n) = f_sl01Below BIG (c, n) := rfl
  rw [e, e_sl01Below]
  by_cases h0 : n ≤ 0
  · rw [decide_eq_true h0]; exact ⟨0, c, rfl, hc, by omega, by omega, fun _ => rfl⟩
  · rw [decide_eq_false h0, cond_false]
    obtain ⟨r1, c1, k1, o1, a1, b1⟩ := h_sl01Byte c hc
    by_cases h1 : n ≤ 256
    · rw [decide_eq_true h1, cond_true, k1, Option.bind_some, decide_eq_false (by omega), cond_false]
      refine ⟨_, _, rfl, o1, Int.tmod_nonneg _ a1, fun _ => ?_, by omega⟩
      show Int.tmod r1 n < n
      exact Int.tmod_lt_of_pos _ (by omega)
    · rw [decide_eq_false h1, cond_false, k1, Option.bind_some]
      obtain ⟨r2, c2, k2, o2, a2, b2⟩ := h_sl01Byte c1 o1
      obtain ⟨r3, c3, k3, o3, a3, b3⟩ := h_sl01Byte c2 o2
      obtain ⟨r4, c4, k4, o4, a4, b4⟩ := h_sl01Byte c3 o3
      simp only [k2, k3, k4, Option.bind_some]
      rw [decide_eq_false (by omega), cond_false]
      refine ⟨_, _, rfl, o4, ?_, fun _ => Int.tmod_lt_of_pos _ (by omega), by omega⟩
      refine Int.tmod_nonneg _ ?_
      rw [wr (n := r1 * 16777216) (by omega) (by omega), wr (n := r2 * 65536) (by omega) (by omega), wr (n := r3 * 256) (by omega) (by omega), wr (n := r1 * 16777216 + r2 * 65536) (by omega) (by omega), wr (n := r1 * 16777216 + r2 * 65536 + r3 * 256) (by omega) (by omega), wr (by omega) (by omega)]
      omega
def GrOk (n : Int) (es : List Ed) : Prop := 2 ≤ n ∧ n ≤ 12 ∧ Srt es ∧ (∀ e, e ∈ es → edB n e = true)
theorem h_sl01New (a : List Int) (ha : a.length ≤ 1048576) : ∃ c, g_sl01New a = some (c, ()) ∧ curOk c := by
  have hm : maxLen = 9223372036854775807 := by decide
  have e : g_sl01New a = f_sl01New BIG a := rfl
  rw [e, e_sl01New]
  have := loop_rel (F := fun (self1 : Int × Int → Option (Int)) (x0 : Int × Int) =>
    Option.bind (bif decide (x0.2 < (a.length : Int)) then
      some (decide (x0.2 < (4000 : Int)))
     else some false : Option (Bool)) fun x2 =>
    bif x2 then
     bnd a.length x0.2 fun n3 =>
     Option.bind a[n3]? fun y4 =>
     self1 (bits .and .i64 (IntKind.wrap .i64 ((IntKind.wrap .i64 ((IntKind.wrap .i64 (x0.1 * (131 : Int))) + (IntKind.wrap .i64 (y4)))) + (7 : Int))) (1073741823 : Int), IntKind.wrap .i64 (x0.2 + (1 : Int)))
    else some x0.1) (fun x => ∃ i : Nat, x.2 = i ∧ i ≤ a.length) (fun x => a.length - x.2.toNat) (fun _ _ => True) (fun self x ⟨i, h1, h2⟩ hs => ?_) (n := BIG) (x := (IntKind.wrap .i64 ((13501 : Int) + (a.length : Int)), 0)) (by simp [BIG]; omega) ⟨0, rfl, by omega⟩
  · obtain ⟨b, hb, _⟩ := this
    rw [hb]
    exact ⟨_, rfl, ha, Int.le_refl _, by simp⟩
  · obtain ⟨z, j⟩ := x
    simp only at h1
    subst h1
    by_cases h : i < a.length
    · by_cases h' : (i : Int) < 4000
      · simp only [show ((i : Int) < (a.length : Int)) from by omega, h', decide_true, cond_true, Option.bind_some]
        rw [bnd_nat h, List.getElem?_eq_getElem h, Option.bind_some, wr1 (by omega)]
        exact hs _ ⟨i + 1, rfl, h⟩ (by simp; omega)
      · simp only [show ((i : Int) < (a.length : Int)) from by omega, h', decide_true, decide_false, cond_true, cond_false, Option.bind_some]
        exact ⟨_, rfl, trivial⟩
    · simp only [show ¬ ((i : Int) < (a.length : Int)) from by omega, decide_false, cond_false, Option.bind_some]
      exact ⟨_, rfl, trivial⟩
def del (es : List Ed) (e : Ed) : List Ed := es.filter (fun y => !decide (y = e))
theorem del_mem {es : List Ed} {e x : Ed} : x ∈ del es e ↔ x ∈ es ∧ x ≠ e := by simp [del]
theorem del_srt {es : List Ed} {e : Ed} (h : Srt es) : Srt (del es e) := h.filter _
theorem GrOk.ins {n : Int} {es : List Ed} {e : Ed} (h : GrOk n es) (he : edB n e = true) : GrOk n (ins es e) := ⟨h.1, h.2.1, ins_srt h.2.2.1, fun x hx => by
  rcases ins_mem.1 hx with rfl | hx
  · exact he
  · exact h.2.2.2 x hx⟩
theorem GrOk.del {n : Int} {es : List Ed} {e : Ed} (h : GrOk n es) : GrOk n (del es e) := ⟨h.1, h.2.1, del_srt h.2.2.1, fun x hx => h.2.2.2 x (del_mem.1 hx).1⟩
theorem h_sl01Once (c : Cur) (n : Int) (hc : curOk c) (hn : n ≤ 1000000) : ∃ b c', g_sl01Once (c, n) = some (b, c') ∧ curOk c' := by
  have e : g_sl01Once (c, n) = f_sl01Once BIG (c, n) := rfl
  obtain ⟨r, c', k, o, _⟩ := h_sl01Below c n hc hn
  rw [e, e_sl01Once, k]
  exact ⟨_, _, rfl, o⟩
theorem h_sl01PickInt (c : Cur) (l : List Int) (hc : curOk c) (h0 : 0 < l.length) (hl : l.length ≤ 1000000) : ∃ b c', g_sl01PickInt (c, l) = some (b, c') ∧ curOk c' := by
  have e : g_sl01PickInt (c, l) = f_sl01PickInt BIG (c, l) := rfl
  obtain ⟨r, c', k, o, a, b, _⟩ := h_sl01Below c l.length hc (by omega)
  have b := b (by omega)
  rw [e, e_sl01PickInt, k, Option.bind_some, bnd_ok a b, List.getElem?_eq_getElem (by omega)]
  exact ⟨_, _, rfl, o⟩
theorem h_iBusy (x0 : Int) (x1 : List Int) (x2 : List Ed) (x3 : List (List Int)) (x4 : List Int) (x5 x6 x7 x8 x9 x10 x11 : Int) (x12 : List Ed) (x13 : Int) (x14 : List (Int × Int × Int × Int × Int × Int)) : g_iBusy (x0, x1, x2, x3, x4, x5, x6, x7, x8, x9, x10, x11, x12, x13, x14) = some (!decide (x9 = 0), ()) := e_iBusy BIG _
/-- A loop that counts up to a number and keeps an account. -/
theorem rangeLoop {S B : Type} (n : Nat) (hl : n < 18446744073709551616) {F : (S × Int → Option B) → S × Int → Option B} (I : Nat → S → Prop) (st : Nat → S → S) (R : S → B) {s0 : S} (h0 : I 0 s0)
    (hI : ∀ i s, i < n → I i s → I (i + 1) (st i s)) (hF : ∀ self s (i : Nat), i < n → I i s → F self (s, (i : Int)) = self (st i s, ((i + 1 : Nat) : Int)))
    (hE : ∀ self s, I n s → F self (s, (n : Int)) = some (R s)) : loopT BIG F (s0, 0) = some (R ((List.range n).foldl (fun s i => st i s) s0)) := by
  have hr : ∀ {i y : Nat}, (List.range n)[i]? = some y → i < n ∧ y = i := by
    intro i y h
    have hi := (List.getElem?_eq_some_iff.1 h).1
    rw [List.length_range] at hi
    rw [List.getElem?_range hi] at h
    cases h
    exact ⟨hi, rfl⟩
  refine foldLoop (List.range n) (by rw [List.length_range]; exact hl) I (fun s i => st i s) R h0 (fun i s y hy hi => ?_) (fun self s i y hy hi => ?_) (fun self s hs => ?_)
  · obtain ⟨h1, rfl⟩ := hr hy; exact hI _ _ h1 hi
  · obtain ⟨h1, rfl⟩ := hr hy; exact hF _ _ _ h1 hi
  · rw [List.length_range] at hs ⊢; exact hE _ _ hs
theorem fold_snoc {α : Type} (f : Nat → α) (n : Nat) (s : List α) : (List.range n).foldl (fun s i => s ++ [f i]) s = s ++ (List.range n).map f := by
  induction n with
  | zero => simp
  | succ n ih => rw [List.range_succ, List.foldl_append, ih]; simp
theorem lab0Loop (n : Nat) (hn : n ≤ 1000000) {F : (List Int × Int → Option (List Int)) → List Int × Int → Option (List Int)}
    (hF : ∀ self out (i : Nat), i < n → out.length = i → F self (out, (i : Int)) = self (out ++ [(i : Int)], ((i + 1 : Nat) : Int)))
    (hE : ∀ self out, F self (out, (n : Int)) = some out) : loopT BIG F ([], 0) = some (lab0 n) := by
  rw [rangeLoop n (by omega) (fun i (s : List Int) => s.length = i) (fun i s => s ++ [(i : Int)]) id rfl (fun i s _ h => by simp [h]) (fun self s i hi h => hF self s i hi h) (fun self s _ => hE self s), fold_snoc]
  rfl
theorem h_ifirst (n : Nat) (hn : n ≤ 1000000) : g_ifirst (n : Int) = some (lab0 n, ()) := by
  have hm : maxLen = 9223372036854775807 := by decide
  show f_ifirst BIG _ = _
  rw [e_ifirst, lab0Loop n hn]
  · rfl
  · intro self out i hi hl
    simp only [show ((i : Int) < (n : Int)) from by omega, decide_true, cond_true]
    rw [decide_eq_true (by simp; omega), cond_true, wr1 (by omega)]
  · intro self out
    simp
theorem lrnds_fold (E : List (Int × Int)) (n : Nat) : ∀ l : List Int, (List.range n).foldl (fun s _ => lrnd E s) l = lrnds E n l := by
  have : ∀ (m : Nat) (l : List Int), lrnds E (m + 1) l = lrnd E (lrnds E m l) := by
    intro m
    induction m with
    | zero => intro l; rfl
    | succ m ih => intro l; show lrnds E (m + 1) (lrnd E l) = _; rw [ih]; rfl
  induction n with
  | zero => intro l; rfl
  | succ n ih => intro l; rw [List.range_succ, List.foldl_append, ih, this]; rfl
theorem h_sl05Labels (n : Nat) (E : List (Int × Int)) (hn : n ≤ 12) (hE : EIn n E) (hl : E.length ≤ 4611686018427387904) : g_sl05Labels ((n : Int), E) = some (labs n E, ()) := by
  have hm : maxLen = 9223372036854775807 := by decide
  show f_sl05Labels BIG _ = _
  rw [e_sl05Labels, lab0Loop n (by omega)]
  · rw [Option.bind_some, rangeLoop n (by omega) (fun i (s : List Int) => s.length = n) (fun _ s => lrnd E s) id (lab0_len n) (fun i s _ h => by rw [lrnd_len]; exact h)]
    · rw [lrnds_fold, lrnds_labs hE]; rfl
    · intro self s i hi hs
      simp only [show ((i : Int) < (n : Int)) from by omega, decide_true, cond_true]
      rw [foldLoop E (by omega) (fun _ (s : List Int) => s.length = n) rlE id hs (fun i s y _ h => by rw [rlE_len]; exact h)]
      · rw [Option.bind_some, wr1 (by omega)]; rfl
      · intro self s i y hy hs
        have hi := (List.getElem?_eq_some_iff.1 hy).1
        obtain ⟨h1, h2, h3, h4⟩ := hE y (List.mem_of_getElem? hy)
        have i1 : y.1.toNat < s.length := by omega
        have i2 : y.2.toNat < s.length := by omega
        simp only [show ((i : Int) < (E.length : Int)) from by omega, decide_true, cond_true]
        rw [wr1 (by omega), bnd_nat hi, hy, Option.bind_some, bnd_ok h1 (by omega), getD_at i1, Option.bind_some, bnd_nat hi, hy, Option.bind_some, bnd_ok h3 (by omega), getD_at i2, Option.bind_some]
        unfold rlE
        simp only
        by_cases c1 : s.getD y.1.toNat 0 < s.getD y.2.toNat 0
        · rw [decide_eq_true c1, cond_true, bnd_nat hi, hy, Option.bind_some, bnd_ok h3 (by omega), getD_at i2, Option.bind_some, Option.bind_some, decide_eq_false (by omega), cond_false, if_pos c1, if_neg (by omega)]
          rfl
        · rw [decide_eq_false c1, cond_false, Option.bind_some, if_neg c1]
          by_cases c2 : s.getD y.2.toNat 0 < s.getD y.1.toNat 0
          · rw [decide_eq_true c2, cond_true, bnd_nat hi, hy, Option.bind_some, bnd_ok h1 (by omega), getD_at i1, Option.bind_some, if_pos c2]
            rfl
          · rw [decide_eq_false c2, cond_false, if_neg c2]
            rfl
      · intro self s _
        simp
    · intro self s _
      simp
  · intro self out i hi hl
    simp only [show ((i : Int) < (n : Int)) from by omega, decide_true, cond_true]
    rw [decide_eq_true (by simp; omega), cond_true, wr1 (by omega)]
  · intro self out
    simp
abbrev Hd := Int × List Int × List (Int × Int) × List (List Int) × List Int × Int × Int × Int × Int × Int × Int × Int × List (Int × Int) × Int × List (Int × Int × Int × Int × Int × Int)
def ownL (n k : Nat) : List Int := (List.range n).map fun (i : Nat) => 1 + Int.tmod (i : Int) k
def hdN (n k : Nat) : Hd := ((n : Int), ownL n k, [], List.replicate k (lab0 n), List.replicate k 0, 0, 0, 0, 0, 0, 0, 0, [], 0, [])
theorem fold_own (f : Nat → Int) (n : Nat) (s : Hd) : (List.range n).foldl (fun (s : Hd) i => (s.1, s.2.1 ++ [f i], s.2.2)) s = (s.1, s.2.1 ++ (List.range n).map f, s.2.2) := by
  induction n with
  | zero => simp
  | succ n ih => rw [List.range_succ, List.foldl_append, ih]; simp
theorem fold_lab (L : List Int) (n : Nat) (s : Hd) : (List.range n).foldl (fun (s : Hd) i => (s.1, s.2.1, s.2.2.1, s.2.2.2.1 ++ [L], s.2.2.2.2)) s = (s.1, s.2.1, s.2.2.1, s.2.2.2.1 ++ List.replicate n L, s.2.2.2.2) := by
  induction n with
  | zero => simp
  | succ n ih => rw [List.range_succ, List.foldl_append, ih, List.replicate_succ']; simp
theorem fold_labn (L : List Int) (n : Nat) (s : Hd) : (List.range n).foldl (fun (s : Hd) i => (s.1, s.2.1, s.2.2.1, s.2.2.2.1 ++ [L], s.2.2.2.2.1 ++ [0], s.2.2.2.2.2)) s = (s.1, s.2.1, s.2.2.1, s.2.2.2.1 ++ List.replicate n L, s.2.2.2.2.1 ++ List.replicate n 0, s.2.2.2.2.2) := by
  induction n with
  | zero => simp
  | succ n ih => rw [List.range_succ, List.foldl_append, ih, List.replicate_succ', List.replicate_succ']; simp
theorem tmod_b {i k : Nat} (hk : 1 ≤ k) (hk' : k ≤ 3) : 0 ≤ Int.tmod (i : Int) k ∧ Int.tmod (i : Int) k < 3 := by
  rw [Int.tmod_eq_emod_of_nonneg (by omega)]
  have h1 := Int.emod_nonneg (i : Int) (show (k : Int) ≠ 0 from by omega)
  have h2 := Int.emod_lt_of_pos (i : Int) (show (0 : Int) < (k : Int) from by omega)
  omega
theorem h_iHeadNew (n k : Int) : ∃ r : Hd × Bool, r = (if inB n 1 12 && inB k 1 3 then (hdN n.toNat k.toNat, true) else ((0, [], [], [], [], 0, 0, 0, 0, 0, 0, 0, [], 0, []), false)) ∧
    g_iHeadNew (n, k) = some ((r.1.1, r.1.2.1, r.1.2.2.1, r.1.2.2.2.1, r.1.2.2.2.2.1, r.1.2.2.2.2.2.1, r.1.2.2.2.2.2.2.1, r.1.2.2.2.2.2.2.2.1, r.1.2.2.2.2.2.2.2.2.1, r.1.2.2.2.2.2.2.2.2.2.1, r.1.2.2.2.2.2.2.2.2.2.2.1, r.1.2.2.2.2.2.2.2.2.2.2.2.1, r.1.2.2.2.2.2.2.2.2.2.2.2.2.1, r.1.2.2.2.2.2.2.2.2.2.2.2.2.2.1, r.1.2.2.2.2.2.2.2.2.2.2.2.2.2.2, r.2), ()) ∧
    g_sHeadNew (n, k) = some ((r.1.1, r.1.2.1, r.1.2.2.1, r.1.2.2.2.1, r.1.2.2.2.2.1, r.1.2.2.2.2.2.1, r.1.2.2.2.2.2.2.1, r.1.2.2.2.2.2.2.2.1, r.1.2.2.2.2.2.2.2.2.1, r.1.2.2.2.2.2.2.2.2.2.1, r.1.2.2.2.2.2.2.2.2.2.2.1, r.1.2.2.2.2.2.2.2.2.2.2.2.1, r.1.2.2.2.2.2.2.2.2.2.2.2.2.1, r.1.2.2.2.2.2.2.2.2.2.2.2.2.2.1, r.1.2.2.2.2.2.2.2.2.2.2.2.2.2.2, r.2), ()) := by
  have hm : maxLen = 9223372036854775807 := by decide
  refine ⟨_, rfl, ?_⟩
  have hi : g_iHeadNew (n, k) = f_iHeadNew BIG (n, k) := rfl
  have hs : g_sHeadNew (n, k) = f_sHeadNew BIG (n, k) := rfl
  rw [hi, hs, e_iHeadNew, e_sHeadNew, h_iin', h_sl01In', h_iin', h_sl01In']
  simp only [Option.bind_some]
  cases hn : inB n 1 12 with
  | false => exact ⟨rfl, rfl⟩
  | true =>
    simp only [Bool.not_true, cond_false, Option.bind_some]
    cases hk : inB k 1 3 with
    | false => exact ⟨rfl, rfl⟩
    | true =>
      rw [inB_t] at hn hk
      obtain ⟨N, rfl⟩ : ∃ N : Nat, n = N := ⟨n.toNat, by omega⟩
      obtain ⟨K, rfl⟩ : ∃ K : Nat, k = K := ⟨k.toNat, by omega⟩
      simp only [Bool.not_true, cond_false, Int.toNat_natCast, Bool.and_self, if_true]
      have g1 : ∀ (s0 : Hd), s0.2.1 = [] → ∀ F : (Hd × Int → Option Hd) → Hd × Int → Option Hd,
          (∀ self (s : Hd) (i : Nat), i < N → s.2.1.length = i → F self (s, (i : Int)) = self ((s.1, s.2.1 ++ [1 + Int.tmod (i : Int) K], s.2.2), ((i + 1 : Nat) : Int))) → (∀ self s, F self (s, (N : Int)) = some s) →
          loopT BIG F (s0, 0) = some (s0.1, ownL N K, s0.2.2) := by
        intro s0 h0 F hF hE
        rw [rangeLoop N (by omega) (fun i (s : Hd) => s.2.1.length = i) (fun i s => (s.1, s.2.1 ++ [1 + Int.tmod (i : Int) K], s.2.2)) id (by rw [h0]; rfl) (fun i s _ h => by simp [h]) (fun self s i hi h => hF self s i hi h) (fun self s _ => hE self s), fold_own, h0]
        rfl
      constructor
      · rw [g1 _ rfl]
        · rw [Option.bind_some, rangeLoop K (by omega) (fun i (s : Hd) => s.2.2.2.1.length = i ∧ s.2.2.2.2.1.length = i) (fun _ s => (s.1, s.2.1, s.2.2.1, s.2.2.2.1 ++ [lab0 N], s.2.2.2.2.1 ++ [0], s.2.2.2.2.2)) id ⟨rfl, rfl⟩ (fun i s _ h => by simp [h.1, h.2])]
          · rw [fold_labn]; rfl
          · intro self s i hi ⟨hs1, hs2⟩
            simp only [show ((i : Int) < (K : Int)) from by omega, decide_true, cond_true]
            rw [h_ifirst N (by omega), Option.bind_some, decide_eq_true (by simp; omega), cond_true, decide_eq_true (by simp; omega), cond_true, wr1 (by omega)]
          · intro self s _
            simp
        · intro self s i hi hs
          have := tmod_b (i := i) (k := K) (by omega) (by omega)
          simp only [show ((i : Int) < (N : Int)) from by omega, decide_true, cond_true]
          rw [decide_eq_false (by omega), cond_false, wr (by omega) (by omega), decide_eq_true (by simp; omega), cond_true, wr1 (by omega)]
        · intro self s
          simp
      · rw [decide_eq_true (by omega), cond_true, decide_eq_true (by omega), cond_true, g1 _ rfl]
        · rw [Option.bind_some, rangeLoop K (by omega) (fun i (s : Hd) => s.2.2.2.1.length = i) (fun _ s => (s.1, s.2.1, s.2.2.1, s.2.2.2.1 ++ [lab0 N], s.2.2.2.2)) id rfl (fun i s _ h => by simp [h])]
          · rw [fold_lab]; rfl
          · intro self s i hi hs1
            simp only [show ((i : Int) < (K : Int)) from by omega, decide_true, cond_true]
            rw [h_sl05Labels N [] (by omega) (fun e he => by cases he) (by simp), Option.bind_some, decide_eq_true (by simp; omega), cond_true, wr1 (by omega)]
            rfl
          · intro self s _
            simp
        · intro self s i hi hs
          have := tmod_b (i := i) (k := K) (by omega) (by omega)
          simp only [show ((i : Int) < (N : Int)) from by omega, decide_true, cond_true]
          rw [decide_eq_false (by omega), cond_false, wr (by omega) (by omega), decide_eq_true (by simp; omega), cond_true, wr1 (by omega)]
        · intro self s
          simp
theorem eOk_srt {n : Int} {es : List Ed} (h : eOk n es = true) : (∀ e, e ∈ es → edB n e = true) ∧ Srt es ∧ es.length ≤ 66 := by
  have hl := eOk_len h
  unfold eOk at h
  split at h
  case isFalse => cases h
  case isTrue hp =>
  have hc : ∀ i (h : i + 1 < es.length), edB n es[i + 1] = true ∧ lsB es[i] es[i + 1] = true := by
    intro i hi
    have := hp (i + 1) hi
    rw [eP_s (List.getElem?_eq_getElem hi) (List.getElem?_eq_getElem (by omega)), Bool.and_eq_true] at this
    exact this
  have h0 : ∀ i (h : i < es.length), edB n es[i] = true := by
    intro i hi
    cases i with
    | zero => have := hp 0 hi; rwa [eP_0 (List.getElem?_eq_getElem hi)] at this
    | succ i => exact (hc i hi).1
  refine ⟨fun e he => ?_, List.pairwise_iff_getElem.2 fun i j hi hj hij => ?_, hl⟩
  · obtain ⟨i, hi, rfl⟩ := List.getElem_of_mem he
    exact h0 i hi
  · have : ∀ d (h : i + 1 + d < es.length), lsB es[i] es[i + 1 + d] = true := by
      intro d
      induction d with
      | zero => intro h; exact (hc i h).2
      | succ d ih => intro h; exact lsB_trans (ih (by omega)) (hc (i + 1 + d) h).2
    have := this (j - (i + 1)) (by omega)
    simpa [show i + 1 + (j - (i + 1)) = j from by omega] using this
theorem edB_in {n : Nat} {e : Ed} (h : edB (n : Int) e = true) : 0 ≤ e.1 ∧ e.1 < n ∧ 0 ≤ e.2 ∧ e.2 < n ∧ e.1 < e.2 := by
  simp only [edB, Bool.and_eq_true, inB_t, decide_eq_true_eq] at h
  omega
/-- A loop that changes each of a row in its place. -/
theorem mapLoop {α : Type} (a : List α) (f : α → α) (hl : a.length < 18446744073709551616) {F : (List α × Int → Option (List α)) → List α × Int → Option (List α)}
    (hF : ∀ self out (i : Nat) y, out.length = a.length → out[i]? = some y → a[i]? = some y → F self (out, (i : Int)) = self (out.set i (f y), ((i + 1 : Nat) : Int)))
    (hE : ∀ self out, out.length = a.length → F self (out, (a.length : Int)) = some out) : loopT BIG F (a, 0) = some (a.map f) := by
  have := loop_eq (F := F) (fun x => ∃ i : Nat, x.2 = i ∧ i ≤ a.length ∧ x.1 = (a.map f).take i ++ a.drop i) (fun x => a.length - x.2.toNat) (fun _ => a.map f) (fun self x ⟨i, h1, h2, h3⟩ hs => ?_) (n := BIG) (x := (a, 0)) (by simp; exact hl) ⟨0, rfl, by simp, by simp⟩
  · exact this
  · obtain ⟨out, j⟩ := x
    simp only at h1 h3
    subst h1
    have hlen : out.length = a.length := by rw [h3]; simp; omega
    by_cases hi : i < a.length
    · have hy := List.getElem?_eq_getElem hi
      have ho : out[i]? = some a[i] := by
        rw [h3, List.getElem?_append_right (by simp; omega)]
        simp [Nat.min_eq_left (show i ≤ a.length from by omega)]
      rw [hF self out i a[i] hlen ho hy]
      have e := set_take_drop (a := a) (t := a.map f) (i := i) (z := f a[i]) (by simp) hi (by simp [hi])
      rw [← h3] at e
      exact hs _ ⟨i + 1, rfl, hi, e⟩ (by simp; omega)
    · have : i = a.length := by omega
      subst this
      rw [hE self out hlen, h3]
      simp [List.take_of_length_le]
theorem set_self {α : Type} {l : List α} {i : Nat} {y : α} (h : l[i]? = some y) : l.set i y = l := by
  apply List.ext_getElem?
  intro j
  rw [List.getElem?_set]
  split
  · subst j
    have := (List.getElem?_eq_some_iff.1 h).1
    simp [this, h.symm]
  · rfl
theorem h_iunion (l : List Int) (a b : Int) (ha : 0 ≤ a) (ha' : a < l.length) (hb : 0 ≤ b) (hb' : b < l.length) (hl : l.length ≤ 1048576) :
    g_iunion (l, a, b) = some (!decide (l.getD a.toNat 0 = l.getD b.toNat 0), unE l (a, b)) := by
  have hm : maxLen = 9223372036854775807 := by decide
  show f_iunion BIG _ = _
  rw [e_iunion, bnd_ok ha ha', getD_at (by omega), Option.bind_some, bnd_ok hb hb', getD_at (by omega), Option.bind_some]
  unfold unE
  simp only
  generalize l.getD a.toNat 0 = x
  generalize l.getD b.toNat 0 = y
  by_cases h : x = y
  · subst h
    rw [decide_eq_true rfl, cond_true, unL_same]; rfl
  · rw [decide_eq_false h, cond_false, mapLoop l (fun z => if z = (if y > x then y else x) then (if y < x then y else x) else z) (by omega)]
    · rfl
    · intro self out i z hlo ho hz
      have hi := (List.getElem?_eq_some_iff.1 hz).1
      simp only [show ((i : Int) < (l.length : Int)) from by omega, decide_true, cond_true]
      rw [bnd_nat (by omega), ho, Option.bind_some, wr1 (by omega)]
      by_cases hc : z = (if y > x then y else x)
      · rw [decide_eq_true hc, cond_true, bnd_nat (by omega), ho, Option.bind_some, if_pos hc]; rfl
      · rw [decide_eq_false hc, cond_false, if_neg hc, set_self ho]; rfl
    · intro self out hlo
      simp
theorem w_iwithoutEdge (es : List Ed) (e : Ed) (hl : es.length ≤ 1048576) : g_iwithoutEdge (es, e) = some (del es e, ()) := by
  have hm : maxLen = 9223372036854775807 := by decide
  show f_iwithoutEdge BIG _ = _
  rw [e_iwithoutEdge, foldLoop es (by omega) (fun i (c : List Ed) => c.length ≤ i) (fun c y => if (!decide (y = e)) then c ++ [y] else c) id (by simp) (fun i c y _ (h : c.length ≤ i) => by show List.length (if _ then _ else _) ≤ _; split <;> (try simp) <;> omega)]
  · rw [foldl_filter]; rfl
  · intro self c i y hy (hc : c.length ≤ i)
    have hi := (List.getElem?_eq_some_iff.1 hy).1
    simp only [show ((i : Int) < (es.length : Int)) from by omega, decide_true, cond_true]
    rw [bnd_nat hi, hy, Option.bind_some, wr1 (by omega)]
    have hd : (decide (y.1 = e.1) && (decide (y.2 = e.2) && true)) = decide (y = e) := by
      obtain ⟨y1, y2⟩ := y
      obtain ⟨e1, e2⟩ := e
      by_cases h1 : y1 = e1 <;> by_cases h2 : y2 = e2 <;> simp [h1, h2]
    rw [hd]
    cases decide (y = e) with
    | true => simp
    | false => simp [show c.length + 1 ≤ 4294967296 from by omega]
  · intro self c hc
    simp
def edO (a b : Int) : Ed := if a < b then (a, b) else (b, a)
theorem h_iedgeOf (i o a b : Int) : g_iedgeOf (i, o, a, b) = some (edO a b, ()) := by
  show f_iedgeOf BIG _ = _
  rw [e_iedgeOf]
  unfold edO
  dsimp only
  by_cases h : a < b
  · rw [if_neg (by omega), if_pos (by omega), if_pos h]
  · rw [if_neg h]
    by_cases h' : b < a
    · rw [if_pos h', if_neg (by omega)]
    · rw [if_neg h', if_neg (by omega), show a = b from by omega]
theorem h_icopyEdges (es : List Ed) (hl : es.length ≤ 1048576) : g_icopyEdges es = some (es, ()) := by
  show f_icopyEdges BIG _ = _
  rw [e_icopyEdges, decide_eq_true (by omega)]; rfl
theorem h_iyesNo (b : Bool) : g_iyesNo b = some (if b then 1 else 2, ()) := by
  show f_iyesNo BIG _ = _
  rw [e_iyesNo]; cases b <;> rfl
/-- A byte of a number. -/
def by8 (n : Int) : UInt8 := UInt8.ofNat (n % 256).toNat
def vF : Nat → Nat → List UInt8
  | 0, v => [by8 (v : Int)]
  | k + 1, v => if v ≤ 127 then [by8 (v : Int)] else by8 ((v % 128 + 128 : Nat) : Int) :: vF k (v / 128)
def vB (v : Nat) : List UInt8 := vF 9 v
def e2 (e : Ed) : List UInt8 := [by8 e.1, by8 e.2]
/-- A number read off bytes, of which it takes so many at most; and how many it took. -/
def dec : Nat → List UInt8 → Option (Nat × Nat)
  | 0, _ => none
  | _ + 1, [] => none
  | k + 1, b :: l => if b.toNat < 128 then some (b.toNat, 1) else (dec k l).map fun r => (b.toNat - 128 + 128 * r.1, r.2 + 1)
/-- What is read there, when it is a number in its own bytes. -/
def rdV (l : List UInt8) : Option (Nat × Nat) := match dec 5 l with
  | some (v, m) => if v ≤ 1000000000 ∧ vB v = l.take m then some (v, m) else none
  | none => none
abbrev St := Nat × Bool
def nm (T : List UInt8) (s : St) : Int × St :=
  if s.2 then (0, (s.1, true)) else match rdV (T.drop s.1) with
  | some (v, m) => ((v : Int), (s.1 + m, false))
  | none => (0, (s.1, true))
def on (T : List UInt8) (s : St) : Int × St :=
  if s.2 then (0, (s.1, true)) else match T[s.1]? with
  | some b => ((b.toNat : Int), (s.1 + 1, false))
  | none => (0, (s.1, true))
def edF (T : List UInt8) : Nat → St → List Ed → St × List Ed
  | 0, s, out => (s, out)
  | k + 1, s, out => if s.2 then (s, out) else edF T k (on T (on T s).2).2 (out ++ [((on T s).1, (on T (on T s).2).1)])
def q0 (T : List UInt8) : Int × St := nm T (0, false)
def q1 (T : List UInt8) : Int × St := on T (q0 T).2
def q2 (T : List UInt8) : Int × St := nm T (q1 T).2
def q3 (T : List UInt8) (K : Nat) : St × List Ed := edF T K (nm T (q2 T).2).2 []
def lbF (T : List UInt8) : Nat → St → List Int → St × List Int
  | 0, s, out => (s, out)
  | k + 1, s, out => lbF T k (on T s).2 (out ++ [(on T s).1])
def q4 (T : List UInt8) (K : Nat) : St × List Ed := edF T K (nm T (q1 T).2).2 []
def q5 (T : List UInt8) (K N : Nat) : St × List Int := lbF T N (q4 T K).1 []
def blO (o : Or') : Bool := decide (o.1 = 0) && (decide (o.2.1 = 0) && (decide (o.2.2.1.length = 0) && decide (o.2.2.2 = 0)))
def blQ (a b c d : Int) : Bool := decide (a = 0) && (decide (b = 0) && (decide (c = 0) && decide (d = 0)))
theorem len0 {α : Type} (l : List α) : decide ((l.length : Int) = 0) = decide (l.length = 0) := decide_eq_decide.2 (by omega)
theorem askEq (a b c d : Int) : (decide (a = 0) && (decide (b = 0) && (decide (c = 0) && (decide (d = 0) && true)))) = blQ a b c d := by simp [blQ]
theorem h_sl01PlaceN (c : Cur) (n : Int) (hc : curOk c) (hn : n ≤ 1000000) : ∃ r c', g_sl01Place (c, n) = some (r, c') ∧ curOk c' := by
  have e : g_sl01Place (c, n) = f_sl01Place BIG (c, n) := rfl
  rw [e, e_sl01Place]
  obtain ⟨b, c1, k1, o1⟩ := h_sl01Once c 15 hc (by omega)
  rw [k1, Option.bind_some]
  cases b with
  | true =>
    obtain ⟨r2, c2, k2, o2⟩ := h_sl01PickInt c1 [(-1 : Int), n, IntKind.wrap .i64 (n + (1 : Int)), (9223372036854775807 : Int), (-9223372036854775808 : Int)] o1 (by simp) (by simp)
    simp only [cond_true, k2, Option.bind_some]
    exact ⟨_, _, rfl, o2⟩
  | false =>
    obtain ⟨r2, c2, k2, o2, _⟩ := h_sl01Below c1 n o1 hn
    simp only [cond_false, k2, Option.bind_some]
    exact ⟨_, _, rfl, o2⟩
theorem fiLoop {α : Type} (a : List α) (hl : a.length < 18446744073709551616) (p : α → Bool) {F : (Int → Option (Unit ⊕ Int)) → Int → Option (Unit ⊕ Int)}
    (hF : ∀ self (i : Nat) y, a[i]? = some y → F self (i : Int) = if p y then some (.inr (i : Int)) else self ((i + 1 : Nat) : Int))
    (hE : ∀ self, F self (a.length : Int) = some (.inl ())) : loopT BIG F 0 = some (if a.findIdx p < a.length then .inr (a.findIdx p : Int) else .inl ()) := by
  refine loop_eq (fun (x : Int) => ∃ i : Nat, x = (i : Int) ∧ i ≤ a.length ∧ ∀ j (hj : j < a.length), j < i → p a[j] = false) (fun x => a.length - x.toNat) (fun _ => _) (fun self x ⟨i, h1, h2, h3⟩ hs => ?_) (n := BIG) (x := 0) (by simp; exact hl) ⟨0, rfl, by simp, fun j _ hj => by omega⟩
  subst h1
  by_cases hi : i < a.length
  · rw [hF self i a[i] (List.getElem?_eq_getElem hi)]
    cases hp : p a[i] with
    | true =>
      have : a.findIdx p = i := (List.findIdx_eq hi).2 ⟨hp, fun j hj => h3 j (by omega) hj⟩
      rw [if_pos rfl, this, if_pos hi]
    | false =>
      rw [if_neg (by simp)]
      exact hs _ ⟨i + 1, rfl, hi, fun j hj hji => by
        by_cases hj' : j = i
        · subst hj'; exact hp
        · exact h3 j hj (by omega)⟩ (by simp; omega)
  · have he : i = a.length := by omega
    subst he
    rw [hE, if_neg]
    intro h
    have h4 := List.findIdx_lt_length.1 h
    obtain ⟨x, hx, hpx⟩ := h4
    obtain ⟨j, hj, rfl⟩ := List.getElem_of_mem hx
    rw [h3 j hj hj] at hpx
    cases hpx
def sA (l : List Sd) (k : Int) : Int := if l.findIdx (fun y => decide (y.1 = k)) < l.length then (l.findIdx (fun y => decide (y.1 = k)) : Int) else -1
theorem w_isaidAt (l : List Sd) (k : Int) (hl : l.length ≤ 1048576) : g_isaidAt (l, k) = some (sA l k, ()) := by
  have hm : maxLen = 9223372036854775807 := by decide
  show f_isaidAt BIG _ = _
  rw [e_isaidAt]
  rw [fiLoop l (by omega) (fun y => decide (y.1 = k))]
  · unfold sA; split <;> rfl
  · intro self i y hy
    have hi := (List.getElem?_eq_some_iff.1 hy).1
    simp only [show ((i : Int) < (l.length : Int)) from by omega, decide_true, cond_true]
    rw [bnd_nat hi, hy, Option.bind_some, wr1 (by omega)]
    cases decide (y.1 = k) <;> rfl
  · intro self; simp
theorem sA_take {l : List Sd} {i : Nat} {y : Sd} (h : l[i]? = some y) : decide (0 ≤ sA (l.take i) y.1) = !decide (sA l y.1 = (i : Int)) := by
  obtain ⟨hi, rfl⟩ := List.getElem?_eq_some_iff.1 h
  have hlt : l.findIdx (fun z => decide (z.1 = (l[i]).1)) < l.length := List.findIdx_lt_length.2 ⟨l[i], List.getElem_mem hi, by simp⟩
  have hle : l.findIdx (fun z => decide (z.1 = (l[i]).1)) ≤ i := by
    by_cases hc : i < l.findIdx (fun z => decide (z.1 = (l[i]).1))
    · have := List.not_of_lt_findIdx hc
      simp at this
    · omega
  unfold sA
  rw [if_pos hlt]
  by_cases he : l.findIdx (fun z => decide (z.1 = (l[i]).1)) = i
  · rw [if_neg]
    · simp [he]
    · intro hc
      obtain ⟨z, hz, hp⟩ := List.findIdx_lt_length.1 hc
      obtain ⟨j, hj, rfl⟩ := List.getElem_of_mem hz
      rw [List.length_take] at hj
      have := List.not_of_lt_findIdx (xs := l) (p := fun z => decide (z.1 = (l[i]).1)) (i := j) (by omega)
      rw [List.getElem_take] at hp
      rw [this] at hp
      cases hp
  · have hc : (l.take i).findIdx (fun z => decide (z.1 = (l[i]).1)) < (l.take i).length := by
      refine List.findIdx_lt_length.2 ⟨l[l.findIdx (fun z => decide (z.1 = (l[i]).1))], ?_, by exact List.findIdx_getElem (xs := l) (p := fun z => decide (z.1 = (l[i]).1)) (w := hlt)⟩
      refine List.mem_iff_getElem.2 ⟨l.findIdx (fun z => decide (z.1 = (l[i]).1)), by rw [List.length_take]; omega, ?_⟩
      rw [List.getElem_take]
    rw [if_pos hc, decide_eq_true (by omega), decide_eq_false (by omega)]; rfl
def tB (a b c d sh : Int) (o : Or') : Bool := blQ a b c d && (decide (sh = 0) && blO o)
theorem h_inoTask (a b c d sh : Int) (o : Or') : g_inoTask (a, b, c, d, sh, o) = some (tB a b c d sh o, ()) := by
  show f_inoTask BIG _ = _
  rw [e_inoTask, len0]
  dsimp only
  rw [askEq]
  unfold tB blO
  cases blQ a b c d <;> cases decide (sh = 0) <;> cases decide (o.1 = 0) <;> cases decide (o.2.1 = 0) <;> cases decide (o.2.2.1.length = 0) <;> rfl
def rtB (n : Int) (k : Nat) (op a b : Int) : Bool :=
  inB op 1 4 && (inB a 0 (n - 1) && (bif decide (op = 4) then inB b 1 k else inB b 0 (n - 1) && !(decide (a = b) && (decide (op = 1) || decide (op = 2)))))
theorem h_ibadAsk (x0 : Int) (x1 : List Int) (x2 : List Ed) (x3 : List (List Int)) (x4 : List Int) (x5 x6 x7 x8 x9 x10 x11 : Int) (x12 : List Ed) (x13 : Int) (x14 : List Sd) (i op a b : Int) (h0 : 1 ≤ x0 ∧ x0 ≤ 12) : g_ibadAsk ((x0, x1, x2, x3, x4, x5, x6, x7, x8, x9, x10, x11, x12, x13, x14), (i, op, a, b)) = some (!rtB x0 x3.length op a b, ()) := by
  show f_ibadAsk BIG _ = _
  rw [e_ibadAsk]
  dsimp only
  rw [wr (by omega) (by omega)]
  simp only [h_iin']
  unfold rtB
  by_cases h4 : op = 4
  · subst h4
    simp only [decide_true, cond_true, Option.bind_some]
    cases inB 4 1 4 <;> cases inB a 0 (x0 - 1) <;> cases inB b 1 (x3.length : Int) <;> cases decide (a = b) <;> rfl
  · simp only [h4, decide_false, cond_false, Option.bind_some]
    cases inB op 1 4 <;> cases inB a 0 (x0 - 1) <;> cases inB b 0 (x0 - 1) <;> cases decide (a = b) <;> cases decide (op = 1) <;> cases decide (op = 2) <;> rfl
theorem gD {α : Type} {l : List α} {i : Nat} {y d : α} (h : l[i]? = some y) : l.getD i d = y := by rw [List.getD_eq_getElem?_getD, h]; rfl
def p1 (k : Nat) (l : List Int) (i : Nat) : Bool := inB (l.getD i 0) 1 k
def p2 (own : List Int) (cuts : List Ed) (i : Nat) : Bool := !decide (own.getD (cuts.getD i (0, 0)).1.toNat 0 = own.getD (cuts.getD i (0, 0)).2.toNat 0)
def p3 (n : Int) (L : List (List Int)) (nums : List Int) (i : Nat) : Bool := lbOk n (L.getD i []) && inB (nums.getD i 0) 0 99991
def p4c (l : List Sd) (i : Nat) (y : Sd) : Bool := decide (y.1 = y.2.1) && (inB y.2.2.2.2.2 1 3 && decide (sA l y.1 = (i : Int)))
def p4 (l : List Sd) (i : Nat) : Bool := p4c l i (l.getD i (0, 0, 0, 0, 0, 0))
abbrev oP1 (k : Nat) (l : List Int) : Prop := ∀ i, i < l.length → p1 k l i = true
abbrev oP2 (own : List Int) (cuts : List Ed) : Prop := ∀ i, i < cuts.length → p2 own cuts i = true
abbrev oP3 (n : Int) (L : List (List Int)) (nums : List Int) : Prop := ∀ i, i < L.length → p3 n L nums i = true
abbrev oP4 (l : List Sd) : Prop := ∀ i, i < l.length → p4 l i = true
theorem cutStep (own : List Int) (cuts : List Ed) (n : Int) (he : eOk n cuts = true) (hn : (own.length : Int) = n) {B : Type} (self : Int → Option (Unit ⊕ Bool)) (i : Nat) (y : Ed) (hy : cuts[i]? = some y) (hl : cuts.length ≤ 1048576) :
    (bnd own.length y.1 fun n12 =>
      Option.bind own[n12]? fun y13 =>
      bnd own.length y.2 fun n14 =>
      Option.bind own[n14]? fun y15 =>
      bif decide (y13 = y15) then some (Sum.inr false)
      else self (IntKind.wrap .i64 ((i : Int) + (1 : Int)))) = if p2 own cuts i then self ((i + 1 : Nat) : Int) else some (.inr false) := by
  have hm : maxLen = 9223372036854775807 := by decide
  have hi := (List.getElem?_eq_some_iff.1 hy).1
  subst hn
  have hb := edB_in ((eOk_srt he).1 y (List.mem_of_getElem? hy))
  have h1 : own[y.1.toNat]? = some (own[y.1.toNat]'(by omega)) := List.getElem?_eq_getElem (by omega)
  have h2 : own[y.2.toNat]? = some (own[y.2.toNat]'(by omega)) := List.getElem?_eq_getElem (by omega)
  rw [bnd_ok (by omega) (by omega), h1, Option.bind_some, bnd_ok (by omega) (by omega), h2, Option.bind_some, wr1 (by omega)]
  unfold p2
  rw [gD hy, gD h1, gD h2]
  cases decide (own[y.1.toNat]'(by omega) = own[y.2.toNat]'(by omega)) <;> rfl
open Classical in
noncomputable def hdB (n : Int) (own : List Int) (cuts : List Ed) (L : List (List Int)) (nums : List Int) (said : List Sd) (t : Bool) : Bool :=
  decide ((inB n 1 12 = true ∧ inB (L.length : Int) 1 3 = true ∧ nums.length = L.length) ∧ oP3 n L nums ∧ ((own.length : Int) = n ∧ eOk n cuts = true) ∧ oP1 L.length own ∧ oP2 own cuts ∧ (oP4 said ∧ said.length ≤ 80) ∧ t = true)
def tkB (n : Int) (k : Nat) (nums : List Int) (said : List Sd) (id op a b sh : Int) (o : Or') : Bool :=
  tB id op a b sh o || ((inB id 1 100000 && (!decide (op = 3) && rtB n k op a b)) && (inB sh 1 k && (ordB n o && (decide (o.1 = IntKind.wrap .i64 (nums.getD (sh - 1).toNat 0 + 1)) && decide (sA said id < 0)))))
theorem w_itaskOk (x0 : Int) (x1 : List Int) (x2 : List Ed) (x3 : List (List Int)) (x4 : List Int) (x5 x6 x7 x8 x9 x10 x11 : Int) (x12 : List Ed) (x13 : Int) (x14 : List Sd) (h0 : 1 ≤ x0 ∧ x0 ≤ 12) (h4 : x4.length = x3.length) (hk : x3.length ≤ 3) (h12 : x12.length ≤ 1048576) (h14 : x14.length ≤ 1048576) :
    g_itaskOk (x0, x1, x2, x3, x4, x5, x6, x7, x8, x9, x10, x11, x12, x13, x14) = some (tkB x0 x3.length x4 x14 x5 x6 x7 x8 x9 (x10, x11, x12, x13), ()) := by
  show f_itaskOk BIG _ = _
  rw [e_itaskOk]
  dsimp only
  rw [h_inoTask x5 x6 x7 x8 x9 (x10, x11, x12, x13), Option.bind_some, h_ibadAsk _ _ _ _ _ _ _ _ _ _ _ _ _ _ _ _ _ _ _ h0]
  simp only [h_iin']
  unfold tkB
  cases tB x5 x6 x7 x8 x9 (x10, x11, x12, x13) with
  | true => rfl
  | false =>
    simp only [cond_false, Option.bind_some, Bool.false_or]
    cases inB x5 1 100000 with
    | false => rfl
    | true =>
      cases decide (x6 = 3) with
      | true => rfl
      | false =>
        cases rtB x0 x3.length x6 x7 x8 with
        | false => rfl
        | true =>
          simp only [Bool.not_true, cond_false, Option.bind_some, Bool.not_false, Bool.and_self, Bool.true_and]
          cases hs : inB x9 1 (x3.length : Int) with
          | false => rfl
          | true =>
            rw [h_iOrderOk x0 (x10, x11, x12, x13) h12]
            simp only [cond_true, Option.bind_some, Bool.true_and]
            cases ordB x0 (x10, x11, x12, x13) with
            | false => rfl
            | true =>
              rw [inB_t] at hs
              have h1 : x4[(x9 - 1).toNat]? = some (x4[(x9 - 1).toNat]'(by omega)) := List.getElem?_eq_getElem (by omega)
              rw [cond_true, wr (n := x9 - 1) (by omega) (by omega), bnd_ok (by omega) (by omega), h1, Option.bind_some, gD h1, w_isaidAt x14 x5 h14]
              simp only [Bool.true_and]
              cases decide (x10 = IntKind.wrap .i64 (x4[(x9 - 1).toNat]'(by omega) + 1)) <;> rfl
open Classical in
theorem w_iownOk (x0 : Int) (x1 : List Int) (x2 : List Ed) (x3 : List (List Int)) (x4 : List Int) (x5 x6 x7 x8 x9 x10 x11 : Int) (x12 : List Ed) (x13 : Int) (x14 : List Sd) (h1 : x1.length ≤ 1048576) (h2 : x2.length ≤ 1048576) :
    g_iownOk (x0, x1, x2, x3, x4, x5, x6, x7, x8, x9, x10, x11, x12, x13, x14) = some (decide (((x1.length : Int) = x0 ∧ eOk x0 x2 = true) ∧ oP1 x3.length x1 ∧ oP2 x1 x2), ()) := by
  have hm : maxLen = 9223372036854775807 := by decide
  show f_iownOk BIG _ = _
  rw [e_iownOk]
  dsimp only
  rw [h_iedgesOk x0 x2 h2]
  by_cases hn : (x1.length : Int) = x0
  · cases he : eOk x0 x2 with
    | false => simp [hn]
    | true =>
      rw [decide_eq_true hn]
      simp only [Bool.not_true, cond_false, Option.bind_some]
      rw [allLoop x1 (by omega) (p1 x3.length x1) false]
      · by_cases hp : oP1 x3.length x1
        · rw [if_pos hp]
          simp only [Option.bind_some]
          rw [allLoop x2 (by omega) (p2 x1 x2) false]
          · by_cases hq : oP2 x1 x2
            · rw [if_pos hq, decide_eq_true (by exact ⟨⟨hn, by first | rfl | trivial | exact he⟩, hp, hq⟩)]; rfl
            · rw [if_neg hq, decide_eq_false (fun h => hq h.2.2)]; rfl
          · intro self i y hy
            have hi := (List.getElem?_eq_some_iff.1 hy).1
            simp only [show ((i : Int) < (x2.length : Int)) from by omega, decide_true, cond_true]
            rw [bnd_nat hi, hy, Option.bind_some]
            exact cutStep x1 x2 x0 he hn (B := Unit) self i y hy h2
          · intro self; simp
        · rw [if_neg hp, decide_eq_false (fun h => hp h.2.1)]; rfl
      · intro self i y hy
        have hi := (List.getElem?_eq_some_iff.1 hy).1
        simp only [show ((i : Int) < (x1.length : Int)) from by omega, decide_true, cond_true]
        rw [bnd_nat hi, hy, Option.bind_some, h_iin', Option.bind_some, wr1 (by omega)]
        unfold p1
        rw [gD hy]
        cases inB y 1 (x3.length : Int) <;> rfl
      · intro self; simp
  · rw [decide_eq_false hn]
    simp [hn]
open Classical in
theorem w_isaidOk (l : List Sd) (hl : l.length ≤ 1048576) : g_isaidOk l = some (decide (oP4 l ∧ l.length ≤ 80), ()) := by
  have hm : maxLen = 9223372036854775807 := by decide
  show f_isaidOk BIG _ = _
  rw [e_isaidOk]
  rw [allLoop l (by omega) (p4 l) false]
  · by_cases hp : oP4 l
    · rw [if_pos hp]
      by_cases hq : l.length ≤ 80
      · have e : decide (oP4 l ∧ l.length ≤ 80) = true := decide_eq_true ⟨hp, hq⟩
        have e2 : decide ((l.length : Int) ≤ 80) = true := decide_eq_true (by omega)
        rw [e, e2]; rfl
      · have e : decide (oP4 l ∧ l.length ≤ 80) = false := decide_eq_false (fun h => hq h.2)
        have e2 : decide ((l.length : Int) ≤ 80) = false := decide_eq_false (by omega)
        rw [e, e2]; rfl
    · have e : decide (oP4 l ∧ l.length ≤ 80) = false := decide_eq_false (fun h => hp h.1)
      rw [if_neg hp, e]; rfl
  · intro self i y hy
    have hi := (List.getElem?_eq_some_iff.1 hy).1
    simp only [show ((i : Int) < (l.length : Int)) from by omega, decide_true, cond_true]
    rw [bnd_nat hi, hy, Option.bind_some, h_iin', wr1 (by omega), decide_eq_true (show (0 : Int) ≤ (i : Int) from by omega), decide_eq_true (show 0 ≤ Int.toNat (i : Int) ∧ Int.toNat (i : Int) ≤ l.length from ⟨by omega, by omega⟩), Int.toNat_natCast, Nat.sub_zero, List.drop_zero, w_isaidAt _ _ (by rw [List.length_take]; omega)]
    simp only [cond_true, Option.bind_some]
    rw [sA_take hy]
    unfold p4
    rw [gD hy]
    unfold p4c
    cases decide (y.1 = y.2.1) <;> cases inB y.2.2.2.2.2 1 3 <;> cases decide (sA l y.1 = (i : Int)) <;> rfl
  · intro self; simp
theorem hd_t {n : Int} {own : List Int} {cuts : List Ed} {L : List (List Int)} {nums : List Int} {said : List Sd} {t : Bool} (h : (inB n 1 12 = true ∧ inB (L.length : Int) 1 3 = true ∧ nums.length = L.length) ∧ oP3 n L nums ∧ ((own.length : Int) = n ∧ eOk n cuts = true) ∧ oP1 L.length own ∧ oP2 own cuts ∧ (oP4 said ∧ said.length ≤ 80) ∧ t = true) : hdB n own cuts L nums said t = true := by
  unfold hdB; exact decide_eq_true h
theorem hd_f {n : Int} {own : List Int} {cuts : List Ed} {L : List (List Int)} {nums : List Int} {said : List Sd} {t : Bool} (h : (inB n 1 12 = true ∧ inB (L.length : Int) 1 3 = true ∧ nums.length = L.length) ∧ oP3 n L nums ∧ ((own.length : Int) = n ∧ eOk n cuts = true) ∧ oP1 L.length own ∧ oP2 own cuts ∧ (oP4 said ∧ said.length ≤ 80) ∧ t = true → False) : hdB n own cuts L nums said t = false := by
  unfold hdB; exact decide_eq_false h
open Classical in
theorem w_iHeadOk (x0 : Int) (x1 : List Int) (x2 : List Ed) (x3 : List (List Int)) (x4 : List Int) (x5 x6 x7 x8 x9 x10 x11 : Int) (x12 : List Ed) (x13 : Int) (x14 : List Sd) (h1 : x1.length ≤ 1048576) (h2 : x2.length ≤ 1048576) (h3 : x3.length ≤ 1048576 ∧ ∀ y, y ∈ x3 → y.length ≤ 1048576) (h12 : x12.length ≤ 1048576) (h14 : x14.length ≤ 1048576) :
    g_iHeadOk (x0, x1, x2, x3, x4, x5, x6, x7, x8, x9, x10, x11, x12, x13, x14) = some (hdB x0 x1 x2 x3 x4 x14 (tkB x0 x3.length x4 x14 x5 x6 x7 x8 x9 (x10, x11, x12, x13)), ()) := by
  have hm : maxLen = 9223372036854775807 := by decide
  show f_iHeadOk BIG _ = _
  rw [e_iHeadOk]
  dsimp only
  rw [w_iownOk _ _ _ _ _ _ _ _ _ _ _ _ _ _ _ h1 h2, w_isaidOk _ h14]
  simp only [h_iin']
  cases ha : inB x0 1 12 with
  | false => rw [hd_f (fun h => by rw [ha] at h; cases h.1.1)]; rfl
  | true =>
    cases hb : inB (x3.length : Int) 1 3 with
    | false => rw [hd_f (fun h => by rw [hb] at h; cases h.1.2.1)]; rfl
    | true =>
      by_cases hc : x4.length = x3.length
      · rw [decide_eq_true (show (x4.length : Int) = (x3.length : Int) from by omega)]
        simp only [Bool.not_true, cond_false, Option.bind_some]
        rw [allLoop x3 (by omega) (p3 x0 x3 x4) false]
        · by_cases hp : oP3 x0 x3 x4
          · rw [if_pos hp]
            have ha0 := ha
            have hb0 := hb
            rw [inB_t] at ha hb
            rw [w_itaskOk _ _ _ _ _ _ _ _ _ _ _ _ _ _ _ ha hc (by omega) h12 h14]
            simp only [Option.bind_some]
            by_cases q1 : ((x1.length : Int) = x0 ∧ eOk x0 x2 = true) ∧ oP1 x3.length x1 ∧ oP2 x1 x2
            · by_cases q2 : oP4 x14 ∧ x14.length ≤ 80
              · cases q3 : tkB x0 x3.length x4 x14 x5 x6 x7 x8 x9 (x10, x11, x12, x13) with
                | false => rw [decide_eq_true q1, decide_eq_true q2, hd_f (fun h => by cases h.2.2.2.2.2.2)]; rfl
                | true => rw [decide_eq_true q1, decide_eq_true q2, hd_t ⟨⟨ha0, hb0, hc⟩, hp, q1.1, q1.2.1, q1.2.2, q2, rfl⟩]; rfl
              · rw [decide_eq_true q1, decide_eq_false q2, hd_f (fun h => q2 h.2.2.2.2.2.1)]; rfl
            · rw [decide_eq_false q1, hd_f (fun h => q1 ⟨h.2.2.1, h.2.2.2.1, h.2.2.2.2.1⟩)]; rfl
          · rw [if_neg hp, hd_f (fun h => hp h.2.1)]; rfl
        · intro self i y hy
          have hi := (List.getElem?_eq_some_iff.1 hy).1
          have hz : x4[i]? = some (x4[i]'(by omega)) := List.getElem?_eq_getElem (by omega)
          simp only [show ((i : Int) < (x3.length : Int)) from by omega, decide_true, cond_true]
          simp only [bnd_nat hi, hy, Option.bind_some, h_ilabelsOk x0 y (h3.2 y (List.mem_of_getElem? hy)), bnd_nat (show i < x4.length from by omega), hz, wr1 (show i < maxLen from by omega)]
          unfold p3
          rw [gD hy, gD hz]
          cases lbOk x0 y <;> cases inB (x4[i]'(by omega)) 0 99991 <;> rfl
        · intro self; simp
      · rw [decide_eq_false (show ¬ (x4.length : Int) = (x3.length : Int) from by omega), hd_f (fun h => hc h.1.2.2)]; rfl
theorem fM_all {S α : Type} (p : α → Bool) (f : S → α → S) : ∀ (l : List α) (s : S), fM (fun s y => if p y = true then some (f s y) else none) s l = if l.all p = true then some (l.foldl f s) else none
  | [], s => by simp [fM]
  | y :: l, s => by
    rw [fM]
    cases hp : p y with
    | false => simp [hp]
    | true => simp only [if_true, Option.bind_some, fM_all p f l, List.all_cons, hp, Bool.true_and, List.foldl_cons]
/-- What a row of labels tells: each vertex with its label. -/
def wlV (l : List Int) : List Ed := l.zipIdx.map fun p => (p.1, (p.2 : Int))
def vP (l : List Int) : Bool := l.zipIdx.all fun p => inB p.1 0 (p.2 : Int)
def pL (n : Int) (l : List Int) : Bool := decide ((l.length : Int) = n) && vP l
def wlB (n : Int) (L : List (List Int)) (cuts : List Ed) : Bool := inB n 1 12 && (decide (L.length ≤ 3) && (L.all (pL n) && cuts.all (edB n)))
def wlR (n : Int) (L : List (List Int)) (cuts : List Ed) : List Int × Bool := if wlB n L cuts = true then (labs n.toNat (L.flatMap wlV ++ cuts), true) else ([], false)
theorem zip_at {l : List Int} {i : Nat} {p : Int × Nat} (h : l.zipIdx[i]? = some p) : l[i]? = some p.1 ∧ p.2 = i := by
  rw [List.getElem?_zipIdx] at h
  cases hl : l[i]? with
  | none => rw [hl] at h; simp at h
  | some x => rw [hl] at h; simp at h; subst h; simp
theorem foldl_flat {α β S : Type} (f : α → List β) (g : S → β → S) : ∀ (L : List α) (s : S), L.foldl (fun s l => (f l).foldl g s) s = (L.flatMap f).foldl g s
  | [], s => rfl
  | l :: L, s => by simp only [List.foldl_cons, List.flatMap_cons, List.foldl_append, foldl_flat f g L]
theorem unE_fold_len (E : List Ed) (s : List Int) : (E.foldl unE s).length = s.length := by
  induction E generalizing s with
  | nil => rfl
  | cons e E ih => rw [List.foldl_cons, ih, unE_len]
theorem w_iWholeLabels (n : Int) (L : List (List Int)) (cuts : List Ed) (hL : L.length ≤ 1048576) (hc : cuts.length ≤ 1048576) : g_iWholeLabels (n, L, cuts) = some (wlR n L cuts, ()) := by
  have hm : maxLen = 9223372036854775807 := by decide
  show f_iWholeLabels BIG _ = _
  rw [e_iWholeLabels, h_iin']
  unfold wlR wlB
  cases hn : inB n 1 12 with
  | false => rfl
  | true =>
    rw [inB_t] at hn
    obtain ⟨k, rfl⟩ : ∃ k : Nat, n = (k : Int) := ⟨n.toNat, by omega⟩
    by_cases h3 : L.length ≤ 3
    case neg => rw [decide_eq_false h3]; simp only [Option.bind_some, Bool.not_true, cond_false]; rw [decide_eq_true (by omega)]; rfl
    rw [decide_eq_true h3]
    simp only [Option.bind_some, Bool.not_true, cond_false, Bool.true_and]
    rw [decide_eq_false (show ¬ (3 : Int) < (L.length : Int) from by omega), cond_false, h_ifirst k (by omega), Option.bind_some]
    rw [exitLoop L (by omega) (fun _ (s : List Int) => s.length = k) (fun s l => if pL k l = true then some ((wlV l).foldl unE s) else none) (([], false) : List Int × Bool) (lab0_len k) (fun i s y s' hy hs he => by
      split at he
      · cases he; rw [unE_fold_len]; exact hs
      · cases he) (fun self s i y hy hs => ?_) (fun self s hs => by simp)]
    · rw [fM_all]
      cases hall : L.all (pL k) with
      | false => rfl
      | true =>
        simp only [if_true, Option.bind_some, foldl_flat, Bool.true_and]
        rw [exitLoop cuts (by omega) (fun _ (s : List Int) => s.length = k) (fun s e => if edB k e = true then some (unE s e) else none) (([], false) : List Int × Bool) (by rw [unE_fold_len]; exact lab0_len k) (fun i s y s' hy hs he => by
          split at he
          · cases he; rw [unE_len]; exact hs
          · cases he) (fun self s i y hy hs => ?_) (fun self s hs => by simp)]
        · rw [fM_all]
          cases hcall : cuts.all (edB k) with
          | false => rfl
          | true =>
            simp only [if_true, Option.bind_some, Int.toNat_natCast]
            unfold labs
            rw [List.foldl_append]
        · have hi := (List.getElem?_eq_some_iff.1 hy).1
          simp only [show ((i : Int) < (cuts.length : Int)) from by omega, decide_true, cond_true]
          rw [bnd_nat hi, hy, Option.bind_some, h_iEdgeOk, wr1 (by omega)]
          cases he : edB k y with
          | false => rfl
          | true =>
            have hin := edB_in he
            simp only [Option.bind_some, Bool.not_true, cond_false, if_true]
            rw [h_iunion s y.1 y.2 hin.1 (by omega) hin.2.2.1 (by omega) (by omega)]; rfl
    · have hi := (List.getElem?_eq_some_iff.1 hy).1
      simp only [show ((i : Int) < (L.length : Int)) from by omega, decide_true, cond_true]
      rw [bnd_nat hi, hy, Option.bind_some, wr1 (by omega)]
      by_cases hlen : (y.length : Int) = (k : Int)
      case neg => unfold pL; rw [decide_eq_false hlen]; rfl
      rw [decide_eq_true hlen, Bool.not_true, cond_false]
      have hz : (y.zipIdx).length = y.length := List.length_zipIdx
      have hlz : (((y.length : Nat) : Int)) = ((y.zipIdx.length : Nat) : Int) := by rw [hz]
      rw [exitLoop y.zipIdx (by omega) (fun _ (s : List Int) => s.length = k) (fun s p => if inB p.1 0 (p.2 : Int) = true then some (unE s (p.1, (p.2 : Int))) else none) (([], false) : List Int × Bool) hs (fun i s y s' hy hs he => by
        split at he
        · cases he; rw [unE_len]; exact hs
        · cases he) (fun self s j p hp hs => ?_) (fun self s hs => by simp only [hz, show ¬ ((y.length : Int) < (y.length : Int)) from by omega, decide_false, cond_false])]
      · rw [fM_all]
        have e1 : pL k y = vP y := by unfold pL; rw [decide_eq_true hlen, Bool.true_and]
        rw [e1]
        unfold vP wlV
        cases y.zipIdx.all fun p => inB p.1 0 (p.2 : Int) with
        | false => rfl
        | true => simp only [if_true, Option.bind_some, List.foldl_map]
      · obtain ⟨hp1, hp2⟩ := zip_at hp
        have hj := (List.getElem?_eq_some_iff.1 hp1).1
        obtain ⟨x, v⟩ := p
        simp only at hp1 hp2
        subst hp2
        simp only [show ((v : Int) < (y.length : Int)) from by omega, decide_true, cond_true]
        rw [bnd_nat hj, hp1, Option.bind_some, h_iin', wr1 (by omega)]
        cases hx : inB x 0 (v : Int) with
        | false => rfl
        | true =>
          rw [inB_t] at hx
          simp only [Option.bind_some, Bool.not_true, cond_false, if_true]
          rw [h_iunion s x (v : Int) hx.1 (by omega) (by omega) (by omega) (by omega)]; rfl
abbrev HdI := Int × List Int × List (Int × Int) × List (List Int) × List Int × Int × Int × Int × Int × Int × Int × Int × List (Int × Int) × Int × List (Int × Int × Int × Int × Int × Int) × Int
theorem fold_rows (L : List (List Int)) (s : Hd) : L.foldl (fun (s : Hd) y => (s.1, s.2.1, s.2.2.1, s.2.2.2.1 ++ [y], s.2.2.2.2)) s = (s.1, s.2.1, s.2.2.1, s.2.2.2.1 ++ L, s.2.2.2.2) := by
  induction L generalizing s with
  | nil => simp
  | cons y L ih => rw [List.foldl_cons, ih]; simp
theorem w_icopyInts (l : List Int) (h : l.length ≤ 1048576) : g_icopyInts l = some (l, ()) := by
  show f_icopyInts BIG _ = _
  rw [e_icopyInts, decide_eq_true (by omega)]; rfl
theorem w_icopyHead (x0 : Int) (x1 : List Int) (x2 : List Ed) (x3 : List (List Int)) (x4 : List Int) (x5 x6 x7 x8 x9 x10 x11 : Int) (x12 : List Ed) (x13 : Int) (x14 : List Sd) (h1 : x1.length ≤ 1048576) (h2 : x2.length ≤ 1048576) (h3 : x3.length ≤ 1048576 ∧ ∀ y, y ∈ x3 → y.length ≤ 1048576) (h4 : x4.length ≤ 1048576) (h12 : x12.length ≤ 1048576) (h14 : x14.length ≤ 1048576) :
    g_icopyHead (x0, x1, x2, x3, x4, x5, x6, x7, x8, x9, x10, x11, x12, x13, x14) = some ((x0, x1, x2, x3, x4, x5, x6, x7, x8, x9, x10, x11, x12, x13, x14), ()) := by
  have hm : maxLen = 9223372036854775807 := by decide
  show f_icopyHead BIG _ = _
  rw [e_icopyHead]
  dsimp only
  have ht : g_icopyTask (x5, x6, x7, x8, x9, x10, x11, x12, x13) = some ((x5, x6, x7, x8, x9, x10, x11, x12, x13), ()) := by
    show f_icopyTask BIG _ = _
    rw [e_icopyTask, h_icopyEdges x12 h12]; rfl
  rw [w_icopyInts x1 h1, Option.bind_some, h_icopyEdges x2 h2, Option.bind_some, w_icopyInts x4 h4, Option.bind_some, ht, Option.bind_some, decide_eq_true (by omega), cond_true]
  rw [foldLoop x3 (by omega) (fun i (s : Hd) => s.2.2.2.1.length = i) (fun (s : Hd) y => (s.1, s.2.1, s.2.2.1, s.2.2.2.1 ++ [y], s.2.2.2.2)) id rfl (fun i s y _ h => by simp only [List.length_append, List.length_cons, List.length_nil]; omega) (fun self s i y hy hs => ?_) (fun self s _ => by simp)]
  · rw [fold_rows]; simp
  · have hi := (List.getElem?_eq_some_iff.1 hy).1
    simp only [show ((i : Int) < (x3.length : Int)) from by omega, decide_true, cond_true]
    rw [bnd_nat hi, hy, Option.bind_some, w_icopyInts y (h3.2 y (List.mem_of_getElem? hy)), Option.bind_some, decide_eq_true (by simp only [List.length_cons, List.length_nil]; omega), cond_true, wr1 (by omega)]
/-- What a head is that has said something. -/
def sayT (x0 : Int) (x1 : List Int) (x2 : List Ed) (x3 : List (List Int)) (x4 : List Int) (x14 : List Sd) (i op a b v : Int) : HdI := (x0, x1, x2, x3, x4, 0, 0, 0, 0, 0, 0, 0, [], 0, x14 ++ [(i, i, op, a, b, v)], 1)
def ordT (x0 : Int) (x1 : List Int) (x2 : List Ed) (x3 : List (List Int)) (x4 : List Int) (x14 : List Sd) (i op a b sh o : Int) (es : List Ed) (v : Int) : HdI := (x0, x1, x2, x3, x4, i, op, a, b, sh, x4.getD (sh - 1).toNat 0 + 1, o, es, v, x14, 2)
def tkE (x0 : Int) (x1 : List Int) (x2 : List Ed) (x3 : List (List Int)) (x4 : List Int) (x14 : List Sd) (i op a b : Int) : HdI :=
  if x1.getD (edO a b).1.toNat 0 = x1.getD (edO a b).2.toNat 0 then ordT x0 x1 x2 x3 x4 x14 i op a b (x1.getD (edO a b).1.toNat 0) (if op = 2 then 2 else 1) [edO a b] 0
  else if (decide (edO a b ∈ x2) == decide (op = 1)) = true then sayT x0 x1 x2 x3 x4 x14 i op a b 2
  else sayT x0 x1 (if edO a b ∈ x2 then del x2 (edO a b) else ins x2 (edO a b)) x3 x4 x14 i op a b 1
def tkM (x0 : Int) (x1 : List Int) (x2 : List Ed) (x3 : List (List Int)) (x4 : List Int) (x14 : List Sd) (i op a b : Int) : HdI :=
  if rtB x0 x3.length op a b = false then sayT x0 x1 x2 x3 x4 x14 i op a b 3
  else if op = 3 then sayT x0 x1 x2 x3 x4 x14 i op a b (if (wlR x0 x3 x2).1.getD a.toNat 0 = (wlR x0 x3 x2).1.getD b.toNat 0 then 1 else 2)
  else if op = 4 then (if x1.getD a.toNat 0 = b then sayT x0 x1 x2 x3 x4 x14 i op a b 2 else ordT x0 x1 x2 x3 x4 x14 i op a b (x1.getD a.toNat 0) 3 [] a)
  else tkE x0 x1 x2 x3 x4 x14 i op a b
/-- A head that is right, and what is known of it. -/
structure HdF (x0 : Int) (x1 : List Int) (x2 : List Ed) (x3 : List (List Int)) (x4 : List Int) (x14 : List Sd) : Prop where
  n : 1 ≤ x0 ∧ x0 ≤ 12
  k : 1 ≤ x3.length ∧ x3.length ≤ 3
  nums : x4.length = x3.length
  own : (x1.length : Int) = x0
  cuts : eOk x0 x2 = true
  said : x14.length ≤ 80
  o1 : ∀ i, i < x1.length → 1 ≤ x1.getD i 0 ∧ x1.getD i 0 ≤ x3.length
  o3 : ∀ i, i < x3.length → lbOk x0 (x3.getD i []) = true ∧ 0 ≤ x4.getD i 0 ∧ x4.getD i 0 ≤ 99991
theorem hd_F {x0 : Int} {x1 : List Int} {x2 : List Ed} {x3 : List (List Int)} {x4 : List Int} {x14 : List Sd} {t : Bool} (h : hdB x0 x1 x2 x3 x4 x14 t = true) : HdF x0 x1 x2 x3 x4 x14 ∧ t = true := by
  unfold hdB at h
  have h' := of_decide_eq_true h
  obtain ⟨⟨a1, a2, a3⟩, a4, ⟨a5, a6⟩, a7, a8, ⟨a9, a10⟩, a11⟩ := h'
  rw [inB_t] at a1 a2
  refine ⟨⟨a1, by omega, a3, a5, a6, a10, fun i hi => ?_, fun i hi => ?_⟩, a11⟩
  · have := a7 i hi
    unfold p1 at this
    rw [inB_t] at this; exact this
  · have := a4 i hi
    unfold p3 at this
    rw [Bool.and_eq_true, inB_t] at this; exact this
theorem lb_vP {n : Int} {l : List Int} (h : lbOk n l = true) : pL n l = true := by
  unfold lbOk at h
  split at h
  case isFalse => cases h
  case isTrue hn =>
  split at h
  case isFalse => cases h
  case isTrue hp =>
  unfold pL
  rw [decide_eq_true hn, Bool.true_and]
  unfold vP
  rw [List.all_eq_true]
  intro p hpm
  obtain ⟨i, hi, rfl⟩ := List.getElem_of_mem hpm
  obtain ⟨h1, h2⟩ := zip_at (List.getElem?_eq_getElem hi)
  rw [List.length_zipIdx] at hi
  have h3 := hp i hi
  unfold lbP at h3
  rw [h1] at h3
  simp only [Bool.and_eq_true] at h3
  rw [h2]; exact h3.1
theorem HdF.wl {x0 : Int} {x1 : List Int} {x2 : List Ed} {x3 : List (List Int)} {x4 : List Int} {x14 : List Sd} (h : HdF x0 x1 x2 x3 x4 x14) : wlB x0 x3 x2 = true := by
  unfold wlB
  rw [inB_t.2 h.n, decide_eq_true h.k.2, Bool.true_and, Bool.true_and, Bool.and_eq_true, List.all_eq_true, List.all_eq_true]
  refine ⟨fun l hl => ?_, (eOk_srt h.cuts).1⟩
  obtain ⟨i, hi, rfl⟩ := List.getElem_of_mem hl
  have := (h.o3 i hi).1
  rw [gD (List.getElem?_eq_getElem hi)] at this
  exact lb_vP this
theorem HdF.wl_len {x0 : Int} {x1 : List Int} {x2 : List Ed} {x3 : List (List Int)} {x4 : List Int} {x14 : List Sd} (h : HdF x0 x1 x2 x3 x4 x14) : ((wlR x0 x3 x2).1.length : Int) = x0 := by
  unfold wlR
  rw [if_pos h.wl]
  have := h.n
  simp only [labs_len]; omega
section
variable {x0 : Int} {x1 : List Int} {x2 : List Ed} {x3 : List (List Int)} {x4 : List Int} {x14 : List Sd}
theorem w_iHead_say (x5 x6 x7 x8 x9 x10 x11 : Int) (x12 : List Ed) (x13 : Int) (i op a b v : Int) (h : x14.length ≤ 1048576) : g_iHead_say ((x0, x1, x2, x3, x4, x5, x6, x7, x8, x9, x10, x11, x12, x13, x14), (i, op, a, b), v) = some (1, (x0, x1, x2, x3, x4, x5, x6, x7, x8, x9, x10, x11, x12, x13, x14 ++ [(i, i, op, a, b, v)])) := by
  show f_iHead_say BIG _ = _
  rw [e_iHead_say]
  dsimp only
  rw [decide_eq_true (by simp only [List.length_cons, List.length_nil]; omega), cond_true]
theorem HdF.num (h : HdF x0 x1 x2 x3 x4 x14) {sh : Int} (h1 : 1 ≤ sh) (h2 : sh ≤ x3.length) : IntKind.wrap .i64 (sh - 1) = sh - 1 ∧ 0 ≤ sh - 1 ∧ sh - 1 < x4.length ∧ x4[(sh - 1).toNat]? = some (x4.getD (sh - 1).toNat 0) ∧ IntKind.wrap .i64 (x4.getD (sh - 1).toNat 0 + 1) = x4.getD (sh - 1).toNat 0 + 1 := by
  have hk := h.k
  have hn := h.nums
  have h3 := h.o3 (sh - 1).toNat (by omega)
  exact ⟨wr (by omega) (by omega), by omega, by omega, getD_at (by omega), wr (by omega) (by omega)⟩
theorem w_iHead_order (h : HdF x0 x1 x2 x3 x4 x14) (x5 x6 x7 x8 x9 x10 x11 : Int) (x12 : List Ed) (x13 : Int) (i op a b sh q o : Int) (es : List Ed) (v : Int) (h1 : 1 ≤ sh) (h2 : sh ≤ x3.length) : g_iHead_order ((x0, x1, x2, x3, x4, x5, x6, x7, x8, x9, x10, x11, x12, x13, x14), (i, op, a, b), sh, (q, o, es, v)) = some (2, (x0, x1, x2, x3, x4, i, op, a, b, sh, x4.getD (sh - 1).toNat 0 + 1, o, es, v, x14)) := by
  obtain ⟨g1, g2, g3, g4, g5⟩ := h.num h1 h2
  show f_iHead_order BIG _ = _
  rw [e_iHead_order]
  dsimp only
  rw [g1, bnd_ok g2 g3, g4, Option.bind_some, g5]
theorem HdF.at (h : HdF x0 x1 x2 x3 x4 x14) {v : Int} (h1 : 0 ≤ v) (h2 : v ≤ x0 - 1) : v < x1.length ∧ x1[v.toNat]? = some (x1.getD v.toNat 0) ∧ 1 ≤ x1.getD v.toNat 0 ∧ x1.getD v.toNat 0 ≤ x3.length := by
  have ho := h.own
  have := h.o1 v.toNat (by omega)
  exact ⟨by omega, getD_at (by omega), this.1, this.2⟩
theorem edO_in {a b n : Int} (ha : 0 ≤ a ∧ a ≤ n) (hb : 0 ≤ b ∧ b ≤ n) : (0 ≤ (edO a b).1 ∧ (edO a b).1 ≤ n) ∧ (0 ≤ (edO a b).2 ∧ (edO a b).2 ≤ n) := by
  unfold edO; split <;> exact ⟨by simpa, by simpa⟩
/-- A value with what was said ahead of it. -/
def frt : HdI → Int × Hd := fun h => (h.2.2.2.2.2.2.2.2.2.2.2.2.2.2.2, (h.1, h.2.1, h.2.2.1, h.2.2.2.1, h.2.2.2.2.1, h.2.2.2.2.2.1, h.2.2.2.2.2.2.1, h.2.2.2.2.2.2.2.1, h.2.2.2.2.2.2.2.2.1, h.2.2.2.2.2.2.2.2.2.1, h.2.2.2.2.2.2.2.2.2.2.1, h.2.2.2.2.2.2.2.2.2.2.2.1, h.2.2.2.2.2.2.2.2.2.2.2.2.1, h.2.2.2.2.2.2.2.2.2.2.2.2.2.1, h.2.2.2.2.2.2.2.2.2.2.2.2.2.2.1))
theorem w_iHead_edge (h : HdF x0 x1 x2 x3 x4 x14) (i op a b : Int) (hop : op = 1 ∨ op = 2) (ha : 0 ≤ a ∧ a ≤ x0 - 1) (hb : 0 ≤ b ∧ b ≤ x0 - 1) : g_iHead_edge ((x0, x1, x2, x3, x4, 0, 0, 0, 0, 0, 0, 0, [], 0, x14), (i, op, a, b)) = some (frt (tkE x0 x1 x2 x3 x4 x14 i op a b)) := by
  have hm : maxLen = 9223372036854775807 := by decide
  have hcl := eOk_len h.cuts
  have hsd := h.said
  obtain ⟨e1, e2⟩ := edO_in ha hb
  obtain ⟨g1, g2, g3, g4⟩ := h.at e1.1 e1.2
  obtain ⟨k1, k2, k3, k4⟩ := h.at e2.1 e2.2
  show f_iHead_edge BIG _ = _
  rw [e_iHead_edge]
  dsimp only
  rw [h_iedgeOf, Option.bind_some, h_ihasEdge _ _ (by omega), Option.bind_some]
  dsimp only
  unfold tkE
  generalize edO a b = e at *
  simp only [bnd_ok e1.1 g1, g2, Option.bind_some, bnd_ok e2.1 k1, k2]
  generalize hp : x1.getD e.1.toNat 0 = p at *
  generalize hq : x1.getD e.2.toNat 0 = q at *
  by_cases hpq : p = q
  · subst hpq
    rcases hop with rfl | rfl
    · simp only [decide_true, cond_true, Option.bind_some, if_true]
      rw [w_iHead_order h _ _ _ _ _ _ _ _ _ _ _ _ _ _ _ _ _ _ g3 g4]
      rfl
    · simp only [decide_true, cond_true, Option.bind_some, if_true, show decide ((2 : Int) = 1) = false from rfl, cond_false]
      rw [w_iHead_order h _ _ _ _ _ _ _ _ _ _ _ _ _ _ _ _ _ _ g3 g4]
      rfl
  · simp only [decide_eq_false hpq, cond_false, Option.bind_some, if_neg hpq]
    by_cases hin : e ∈ x2
    · rcases hop with rfl | rfl
      · simp only [decide_eq_true hin, decide_true, cond_true, Bool.not_true, Option.bind_some, cond_false, show decide ((1 : Int) = 2) = false from rfl, beq_self_eq_true, if_true]
        rw [w_iHead_say _ _ _ _ _ _ _ _ _ _ _ _ _ _ (by omega)]
        rfl
      · simp only [decide_eq_true hin, decide_true, cond_true, Bool.not_true, Option.bind_some, cond_false, show decide ((2 : Int) = 1) = false from rfl, show (true == false) = false from rfl, Bool.false_eq_true, if_false, if_pos hin]
        rw [w_iwithoutEdge _ _ (by omega), Option.bind_some, w_iHead_say _ _ _ _ _ _ _ _ _ _ _ _ _ _ (by omega)]
        rfl
    · rcases hop with rfl | rfl
      · simp only [decide_eq_false hin, decide_true, cond_true, Bool.not_false, Option.bind_some, cond_false, show (false == true) = false from rfl, Bool.false_eq_true, if_false, if_neg hin]
        rw [h_iwithEdge _ _ (by omega), fdI_ins (eOk_srt h.cuts).2.1 hin, Option.bind_some, w_iHead_say _ _ _ _ _ _ _ _ _ _ _ _ _ _ (by omega)]
        rfl
      · simp only [decide_eq_false hin, decide_true, cond_true, Bool.not_false, Option.bind_some, cond_false, show decide ((2 : Int) = 1) = false from rfl, beq_self_eq_true, if_true]
        rw [w_iHead_say _ _ _ _ _ _ _ _ _ _ _ _ _ _ (by omega)]
        rfl
theorem rt_in {n : Int} {k : Nat} {op a b : Int} (h : rtB n k op a b = true) : (1 ≤ op ∧ op ≤ 4) ∧ (0 ≤ a ∧ a ≤ n - 1) ∧ (op = 4 → 1 ≤ b ∧ b ≤ k) ∧ (op ≠ 4 → 0 ≤ b ∧ b ≤ n - 1) := by
  unfold rtB at h
  simp only [Bool.and_eq_true, inB_t] at h
  refine ⟨h.1, h.2.1, fun h4 => ?_, fun h4 => ?_⟩
  · have := h.2.2
    rw [decide_eq_true h4, cond_true, inB_t] at this; exact this
  · have := h.2.2
    rw [decide_eq_false h4, cond_false, Bool.and_eq_true, inB_t] at this; exact this.1
theorem w_iHead_take (h : HdF x0 x1 x2 x3 x4 x14) (i op a b : Int) : g_iHead_take ((x0, x1, x2, x3, x4, 0, 0, 0, 0, 0, 0, 0, [], 0, x14), (i, op, a, b)) = some (frt (tkM x0 x1 x2 x3 x4 x14 i op a b)) := by
  have hm : maxLen = 9223372036854775807 := by decide
  have hcl := eOk_len h.cuts
  have hsd := h.said
  have hk := h.k
  show f_iHead_take BIG _ = _
  rw [e_iHead_take]
  dsimp only
  rw [h_ibadAsk _ _ _ _ _ _ _ _ _ _ _ _ _ _ _ _ _ _ _ h.n, Option.bind_some]
  unfold tkM
  cases hr : rtB x0 x3.length op a b with
  | false =>
    simp only [Bool.not_false, cond_true, if_true]
    rw [w_iHead_say _ _ _ _ _ _ _ _ _ _ _ _ _ _ (by omega)]
    rfl
  | true =>
    obtain ⟨r1, r2, r3, r4⟩ := rt_in hr
    simp only [Bool.not_true, cond_false, Bool.true_eq_false, if_false]
    by_cases h3 : op = 3
    · subst h3
      have hb := r4 (by omega)
      have hl := h.wl_len
      simp only [decide_true, cond_true, if_true]
      have ha' : a.toNat < (wlR x0 x3 x2).1.length := by omega
      have hb' : b.toNat < (wlR x0 x3 x2).1.length := by omega
      rw [w_iWholeLabels _ _ _ (by omega) (by omega), Option.bind_some]
      dsimp only
      rw [bnd_ok r2.1 (by omega), getD_at ha', Option.bind_some, bnd_ok hb.1 (by omega), getD_at hb', Option.bind_some, h_iyesNo, Option.bind_some]
      rw [w_iHead_say _ _ _ _ _ _ _ _ _ _ _ _ _ _ (by omega)]
      simp only [decide_eq_true_eq]
      rfl
    · simp only [decide_eq_false h3, cond_false, if_neg h3]
      by_cases h4 : op = 4
      · subst h4
        obtain ⟨g1, g2, g3, g4⟩ := h.at r2.1 r2.2
        simp only [decide_true, cond_true, if_true, bnd_ok r2.1 g1, g2, Option.bind_some]
        by_cases hab : x1.getD a.toNat 0 = b
        · rw [decide_eq_true hab, if_pos hab, cond_true, w_iHead_say _ _ _ _ _ _ _ _ _ _ _ _ _ _ (by omega)]
          rfl
        · rw [decide_eq_false hab, if_neg hab, cond_false, w_iHead_order h _ _ _ _ _ _ _ _ _ _ _ _ _ _ _ _ _ _ g3 g4]
          rfl
      · simp only [decide_eq_false h4, cond_false, Option.bind_some, if_neg h4]
        rw [w_iHead_edge h i op a b (by omega) r2 (r4 h4)]
        rfl
end
/-- May a question be taken? -/
noncomputable def tkOk (x0 : Int) (x1 : List Int) (x2 : List Ed) (x3 : List (List Int)) (x4 : List Int) (x5 x6 x7 x8 x9 x10 x11 : Int) (x12 : List Ed) (x13 : Int) (x14 : List Sd) (i : Int) : Bool :=
  hdB x0 x1 x2 x3 x4 x14 (tkB x0 x3.length x4 x14 x5 x6 x7 x8 x9 (x10, x11, x12, x13)) && (inB i 1 100000 && (!decide (0 ≤ sA x14 i) && (decide (x9 = 0) && !decide ((80 : Int) ≤ (x14.length : Int)))))
noncomputable def tkR (x0 : Int) (x1 : List Int) (x2 : List Ed) (x3 : List (List Int)) (x4 : List Int) (x5 x6 x7 x8 x9 x10 x11 : Int) (x12 : List Ed) (x13 : Int) (x14 : List Sd) (i op a b : Int) : HdI :=
  if tkOk x0 x1 x2 x3 x4 x5 x6 x7 x8 x9 x10 x11 x12 x13 x14 i = true then tkM x0 x1 x2 x3 x4 x14 i op a b else (x0, x1, x2, x3, x4, x5, x6, x7, x8, x9, x10, x11, x12, x13, x14, 0)
theorem tk_free {x0 : Int} {x1 : List Int} {x2 : List Ed} {x3 : List (List Int)} {x4 : List Int} {x5 x6 x7 x8 x9 x10 x11 : Int} {x12 : List Ed} {x13 : Int} {x14 : List Sd} {i : Int} (h : tkOk x0 x1 x2 x3 x4 x5 x6 x7 x8 x9 x10 x11 x12 x13 x14 i = true) :
    HdF x0 x1 x2 x3 x4 x14 ∧ x5 = 0 ∧ x6 = 0 ∧ x7 = 0 ∧ x8 = 0 ∧ x9 = 0 ∧ x10 = 0 ∧ x11 = 0 ∧ x12 = [] ∧ x13 = 0 := by
  unfold tkOk at h
  simp only [Bool.and_eq_true, decide_eq_true_eq] at h
  obtain ⟨h1, h2, h3, h4, h5⟩ := h
  obtain ⟨hF, ht⟩ := hd_F h1
  subst h4
  unfold tkB at ht
  rw [Bool.or_eq_true] at ht
  rcases ht with ht | ht
  · unfold tB blQ blO at ht
    simp only [Bool.and_eq_true, decide_eq_true_eq] at ht
    obtain ⟨⟨b1, b2, b3, b4⟩, _, c1, c2, c3, c4⟩ := ht
    exact ⟨hF, b1, b2, b3, b4, rfl, c1, c2, List.length_eq_zero_iff.1 c3, c4⟩
  · simp only [Bool.and_eq_true, inB_t] at ht
    omega
section
variable (x0 : Int) (x1 : List Int) (x2 : List Ed) (x3 : List (List Int)) (x4 : List Int) (x5 x6 x7 x8 x9 x10 x11 : Int) (x12 : List Ed) (x13 : Int) (x14 : List Sd) (i op a b : Int) (h1 : x1.length ≤ 1048576) (h2 : x2.length ≤ 1048576) (h3 : x3.length ≤ 1048576 ∧ ∀ y, y ∈ x3 → y.length ≤ 1048576) (h4 : x4.length ≤ 1048576) (h12 : x12.length ≤ 1048576) (h14 : x14.length ≤ 1048576)
include h1 h2 h3 h4 h12 h14
theorem w_iTake : g_iTake ((x0, x1, x2, x3, x4, x5, x6, x7, x8, x9, x10, x11, x12, x13, x14), (i, op, a, b)) = some (tkR x0 x1 x2 x3 x4 x5 x6 x7 x8 x9 x10 x11 x12 x13 x14 i op a b, ()) := by
  show f_iTake BIG _ = _
  rw [e_iTake, w_icopyHead x0 x1 x2 x3 x4 x5 x6 x7 x8 x9 x10 x11 x12 x13 x14 h1 h2 h3 h4 h12 h14, Option.bind_some]
  dsimp only
  rw [w_iHeadOk x0 x1 x2 x3 x4 x5 x6 x7 x8 x9 x10 x11 x12 x13 x14 h1 h2 h3 h12 h14, h_iin', w_isaidAt x14 i h14, h_iBusy]
  have hx : (Option.bind (some (hdB x0 x1 x2 x3 x4 x14 (tkB x0 x3.length x4 x14 x5 x6 x7 x8 x9 (x10, x11, x12, x13)), ())) fun r1 : Bool × Unit =>
     bif !r1.1 then some true else Option.bind (some (inB i 1 100000, ())) fun r2 : Bool × Unit => bif !r2.1 then some true else Option.bind (some (sA x14 i, ())) fun r3 : Int × Unit => bif decide ((0 : Int) ≤ r3.1) then some true else Option.bind (some (!decide (x9 = 0), ())) fun r4 : Bool × Unit => bif r4.1 then some true else some (decide ((80 : Int) ≤ (x14.length : Int)))) = some (!tkOk x0 x1 x2 x3 x4 x5 x6 x7 x8 x9 x10 x11 x12 x13 x14 i) := by
    unfold tkOk
    simp only [Option.bind_some]
    cases hdB x0 x1 x2 x3 x4 x14 (tkB x0 x3.length x4 x14 x5 x6 x7 x8 x9 (x10, x11, x12, x13)) <;> cases inB i 1 100000 <;> cases decide ((0 : Int) ≤ sA x14 i) <;> cases decide (x9 = 0) <;> cases decide ((80 : Int) ≤ (x14.length : Int)) <;> rfl
  refine (congrArg (fun o => Option.bind o _) hx).trans ?_
  unfold tkR
  cases hok : tkOk x0 x1 x2 x3 x4 x5 x6 x7 x8 x9 x10 x11 x12 x13 x14 i with
  | false => rfl
  | true =>
    obtain ⟨hF, rfl, rfl, rfl, rfl, rfl, rfl, rfl, rfl, rfl⟩ := tk_free hok
    simp only [Bool.not_true, Option.bind_some, cond_false, if_true]
    rw [w_iHead_take hF]
    rfl
end
theorem h_sDrawHeadNew (a : List Int) (ha : a.length ≤ 1048576) : ∃ p q, g_sDrawHeadNew a = some ((p, q), ()) := by
  have e : g_sDrawHeadNew a = f_sDrawHeadNew BIG a := rfl
  rw [e, e_sDrawHeadNew]
  obtain ⟨c, k, o⟩ := h_sl01New a ha
  obtain ⟨p, c1, k1, o1⟩ := h_sl01PlaceN c 13 o (by decide)
  obtain ⟨q, c2, k2, o2⟩ := h_sl01PlaceN c1 4 o1 (by decide)
  rw [k, Option.bind_some]
  refine ⟨p, q, ?_⟩
  simp only [k1, k2, Option.bind_some]
theorem lab0_at {n i : Nat} (h : i < n) : (lab0 n)[i]? = some (i : Int) := by
  unfold lab0
  rw [List.getElem?_map, List.getElem?_range h]; rfl
theorem lbOk_lab0 (n : Nat) : lbOk (n : Int) (lab0 n) = true := by
  unfold lbOk
  rw [if_pos (by rw [lab0_len]), if_pos]
  intro i hi
  rw [lab0_len] at hi
  rw [lbP_eq (lab0_at hi) (z := (i : Int)) (by simpa using lab0_at hi), inB_t.2 (by omega)]
  simp
theorem ownL_at {n k i : Nat} (h : i < n) : (ownL n k)[i]? = some (1 + ((i % k : Nat) : Int)) := by
  unfold ownL
  rw [List.getElem?_map, List.getElem?_range h]; rfl
theorem ownL_len (n k : Nat) : (ownL n k).length = n := by simp [ownL]
theorem hdN_ok (n k : Nat) (h1 : 1 ≤ n) (h2 : n ≤ 12) (h3 : 1 ≤ k) (h4 : k ≤ 3) : hdB (n : Int) (ownL n k) [] (List.replicate k (lab0 n)) (List.replicate k 0) [] (tkB (n : Int) (List.replicate k (lab0 n)).length (List.replicate k 0) [] 0 0 0 0 0 (0, 0, [], 0)) = true := by
  refine hd_t ⟨⟨inB_t.2 (by omega), inB_t.2 (by rw [List.length_replicate]; omega), by simp⟩, fun i hi => ?_, ⟨by rw [ownL_len], rfl⟩, fun i hi => ?_, fun i hi => by simp at hi, ⟨fun i hi => by simp at hi, by simp⟩, rfl⟩
  · rw [List.length_replicate] at hi
    unfold p3
    rw [gD (List.getElem?_replicate_of_lt hi), gD (List.getElem?_replicate_of_lt hi), lbOk_lab0]
    rfl
  · rw [ownL_len] at hi
    unfold p1
    rw [gD (ownL_at hi), inB_t, List.length_replicate]
    have := Nat.mod_lt i (show k > 0 from by omega)
    omega
theorem w_iReplyOf (x0 : Int) (x1 : List Int) (x2 : List Ed) (x3 : List (List Int)) (x4 : List Int) (x5 x6 x7 x8 x9 x10 x11 : Int) (x12 : List Ed) (x13 : Int) (l : List Sd) (k : Int) (hl : l.length ≤ 1048576) : g_iReplyOf ((x0, x1, x2, x3, x4, x5, x6, x7, x8, x9, x10, x11, x12, x13, l), k) = (if decide (sA l k < 0) = true then some ((0, false), ()) else bnd l.length (sA l k) fun n1 => Option.bind l[n1]? fun y2 => some ((y2.2.2.2.2.2, true), ())) := by
  show f_iReplyOf BIG _ = _
  rw [e_iReplyOf]
  dsimp only
  rw [w_isaidAt l k hl, Option.bind_some]
  cases decide (sA l k < 0) <;> rfl
theorem law_lFnHeadNew (a : List Int) (h : a.length ≤ maxLen) : g_lFnHeadNew a = some (true, ()) := by
  show f_lFnHeadNew BIG _ = _
  rw [e_lFnHeadNew]
  have hb : g_lbig a = some (decide ((1048576 : Int) < (a.length : Int)), ()) := by
    show f_lbig BIG _ = _
    rw [e_lbig]
  rw [hb, Option.bind_some]
  by_cases hl : a.length ≤ 1048576
  case neg => rw [decide_eq_true (by omega)]; rfl
  rw [decide_eq_false (by omega), cond_false]
  obtain ⟨p, q, k⟩ := h_sDrawHeadNew a hl
  rw [k, Option.bind_some]
  obtain ⟨r, hr, hi, hs⟩ := h_iHeadNew p q
  simp only
  rw [hi, hs, Option.bind_some, Option.bind_some]
  cases hc : inB p 1 12 && inB q 1 3 with
  | false =>
    rw [hc] at hr
    simp only [Bool.false_eq_true, if_false] at hr
    subst hr
    rfl
  | true =>
    rw [hc, if_pos rfl] at hr
    simp only [Bool.and_eq_true, inB_t] at hc
    subst hr
    obtain ⟨n, rfl⟩ : ∃ n : Nat, p = (n : Int) := ⟨p.toNat, by omega⟩
    obtain ⟨m, rfl⟩ : ∃ m : Nat, q = (m : Int) := ⟨q.toNat, by omega⟩
    unfold hdN
    simp only [Int.toNat_natCast, beq_self_eq_true, Bool.not_true, cond_false]
    have hk := hdN_ok n m (by omega) (by omega) (by omega) (by omega)
    have h3 : (List.replicate m (lab0 n)).length ≤ 1048576 ∧ ∀ y, y ∈ List.replicate m (lab0 n) → y.length ≤ 1048576 := ⟨by rw [List.length_replicate]; omega, fun y hy => by rw [(List.mem_replicate.1 hy).2, lab0_len]; omega⟩
    rw [w_iTake (n : Int) (ownL n m) [] (List.replicate m (lab0 n)) (List.replicate m 0) 0 0 0 0 0 0 0 [] 0 [] 5 9 0 0 (by rw [ownL_len]; omega) (by simp) h3 (by rw [List.length_replicate]; omega) (by simp) (by simp), Option.bind_some]
    have hok : tkOk (n : Int) (ownL n m) [] (List.replicate m (lab0 n)) (List.replicate m 0) 0 0 0 0 0 0 0 [] 0 [] 5 = true := by
      unfold tkOk
      rw [hk]; rfl
    have hrt : rtB (n : Int) (List.replicate m (lab0 n)).length 9 0 0 = false := by
      unfold rtB
      rw [show inB 9 1 4 = false from rfl, Bool.false_and]
    have ht : tkR (n : Int) (ownL n m) [] (List.replicate m (lab0 n)) (List.replicate m 0) 0 0 0 0 0 0 0 [] 0 [] 5 9 0 0 = ((n : Int), ownL n m, [], List.replicate m (lab0 n), List.replicate m 0, 0, 0, 0, 0, 0, 0, 0, [], 0, [(5, 5, 9, 0, 0, 3)], 1) := by
      unfold tkR
      rw [if_pos hok]
      unfold tkM
      rw [if_pos hrt]
      rfl
    rw [ht]
    simp only
    rw [w_iReplyOf _ _ _ _ _ _ _ _ _ _ _ _ _ _ _ _ (by simp), w_iReplyOf _ _ _ _ _ _ _ _ _ _ _ _ _ _ _ _ (by simp), w_iHeadOk (n : Int) (ownL n m) [] (List.replicate m (lab0 n)) (List.replicate m 0) 0 0 0 0 0 0 0 [] 0 [] (by rw [ownL_len]; omega) (by simp) h3 (by simp) (by simp), hk, h_iBusy]
    rfl
end Go.Fw
