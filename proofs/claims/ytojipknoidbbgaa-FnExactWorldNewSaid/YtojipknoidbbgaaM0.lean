/- What the given functions come to. No conditions. -/
import Derived.Test.YtojipknoidbbgaaX1
import Derived.IntWalk
set_option linter.unusedVariables false
set_option linter.unusedSimpArgs false
namespace Go.Fw

theorem loop_rel {X B : Type} {F : (X → Option B) → X → Option B} (I : X → Prop) (μ : X → Nat) (Q : X → B → Prop)
    (h : ∀ self x, I x → (∀ y, I y → μ y < μ x → ∃ b, self y = some b ∧ Q y b) → ∃ b, F self x = some b ∧ Q x b) : ∀ {n : Nat} {x : X}, μ x < n → I x → ∃ b, loopT n F x = some b ∧ Q x b
  | 0, _, hn, _ => absurd hn (Nat.not_lt_zero _)
  | n + 1, x, hn, hi => h (it F n) x hi fun _ hy hm => loop_rel I μ Q h (n := n) (by omega) hy
theorem loop_eq {X B : Type} {F : (X → Option B) → X → Option B} (I : X → Prop) (μ : X → Nat) (R : X → B)
    (h : ∀ self x, I x → (∀ y, I y → μ y < μ x → self y = some (R y)) → F self x = some (R x)) {n : Nat} {x : X} (hn : μ x < n) (hi : I x) : loopT n F x = some (R x) := by
  obtain ⟨b, h1, h2⟩ := loop_rel (F := F) I μ (fun x b => b = R x) (fun self x hx hs => ⟨_, h self x hx fun y hy hm => by obtain ⟨b, h1, h2⟩ := hs y hy hm; rw [h1, h2], rfl⟩) hn hi
  rw [h1, h2]
theorem wr {n : Int} (h : -9223372036854775808 ≤ n) (h' : n ≤ 9223372036854775807) : IntKind.wrap .i64 n = n := by
  rw [IntKind.wrap_i64]; omega
theorem wr1 {i : Nat} (h : i < maxLen) : IntKind.wrap .i64 ((i : Int) + 1) = ((i + 1 : Nat) : Int) := by
  have : maxLen = 9223372036854775807 := by decide
  rw [wr (by omega) (by omega)]; rfl
theorem bnd_ok {B : Type} {len : Nat} {i : Int} {k : Nat → Option B} (h : 0 ≤ i) (h' : i < len) : bnd len i k = k i.toNat := by
  unfold bnd
  rw [if_pos ⟨h, by omega⟩]
theorem bnd_nat {B : Type} {len : Nat} {i : Nat} {k : Nat → Option B} (h' : i < len) : bnd len (i : Int) k = k i := by
  rw [bnd_ok (Int.natCast_nonneg i) (by omega)]
  simp
/-- A loop that goes through a row, and is left at the first place where it is told so. -/
theorem allLoop {α B : Type} (a : List α) (hl : a.length < 18446744073709551616) {F : (Int → Option (Unit ⊕ B)) → Int → Option (Unit ⊕ B)} (p : Nat → Bool) (b : B)
    (hF : ∀ self (i : Nat) y, a[i]? = some y → F self (i : Int) = if p i then self ((i + 1 : Nat) : Int) else some (.inr b))
    (hE : ∀ self, F self (a.length : Int) = some (.inl ())) : loopT BIG F 0 = some (if ∀ i, i < a.length → p i = true then .inl () else .inr b) := by
  have hh := loop_rel (F := F) (fun x => ∃ i : Nat, x = i ∧ i ≤ a.length) (fun x => a.length - x.toNat) (fun x r => ((∀ i : Nat, x ≤ (i : Int) → i < a.length → p i = true) ∧ r = .inl ()) ∨ ((∃ i : Nat, i < a.length ∧ p i = false) ∧ r = .inr b)) (fun self x ⟨i, h1, h2⟩ hs => ?_) (n := BIG) (x := 0) (by simp; exact hl) ⟨0, rfl, by simp⟩
  · obtain ⟨r, hr, hq⟩ := hh
    rw [hr]
    congr 1
    rcases hq with ⟨h1, rfl⟩ | ⟨⟨i, h1, h2⟩, rfl⟩
    · rw [if_pos fun i hi => h1 i (by omega) hi]
    · rw [if_neg]
      intro h
      rw [h i h1] at h2; cases h2
  · subst h1
    by_cases hi : i < a.length
    · rw [hF self i a[i] (List.getElem?_eq_getElem hi)]
      cases hp : p i with
      | true =>
        rw [if_pos rfl]
        obtain ⟨r, hr, hq⟩ := hs _ ⟨i + 1, rfl, hi⟩ (by simp; omega)
        refine ⟨r, hr, ?_⟩
        rcases hq with ⟨h1, rfl⟩ | h1
        · refine .inl ⟨fun k hk hk' => ?_, rfl⟩
          by_cases h : k = i
          · subst h; exact hp
          · exact h1 k (by omega) hk'
        · exact .inr h1
      | false => exact ⟨_, rfl, .inr ⟨⟨i, hi, hp⟩, rfl⟩⟩
    · have : i = a.length := by omega
      subst this
      exact ⟨_, hE self, .inl ⟨fun k hk hk' => by omega, rfl⟩⟩
theorem maxLen_lt : maxLen < 18446744073709551616 := by decide
/-- Two rows that are looked at side by side. -/
theorem eqLoop {α B : Type} [DecidableEq α] (a b : List α) (hl : a.length ≤ maxLen) (hab : a.length = b.length) {F : (Int → Option (Unit ⊕ B)) → Int → Option (Unit ⊕ B)} (r : B)
    (hF : ∀ self (i : Nat) x y, a[i]? = some x → b[i]? = some y → F self (i : Int) = if x = y then self ((i + 1 : Nat) : Int) else some (.inr r))
    (hE : ∀ self, F self (a.length : Int) = some (.inl ())) : loopT BIG F 0 = some (if a = b then .inl () else .inr r) := by
  rw [allLoop a (Nat.lt_of_le_of_lt hl maxLen_lt) (fun i => decide (a[i]? = b[i]?)) r (fun self i y hy => ?_) hE]
  · congr 1
    by_cases h : a = b
    · subst h; simp
    · rw [if_neg h, if_neg]
      intro h'
      apply h
      apply List.ext_getElem? fun i => ?_
      by_cases hi : i < a.length
      · simpa using h' i hi
      · rw [List.getElem?_eq_none (by omega), List.getElem?_eq_none (by omega)]
  · have hi := (List.getElem?_eq_some_iff.1 hy).1
    have hb : b[i]? = some (b[i]'(by omega)) := List.getElem?_eq_getElem (by omega)
    rw [hF self i y _ hy hb, hy, hb]
    simp
/-- A loop that goes through a row and keeps an account. -/
theorem foldLoop {α S B : Type} (a : List α) (hl : a.length < 18446744073709551616) {F : (S × Int → Option B) → S × Int → Option B} (I : Nat → S → Prop) (st : S → α → S) (R : S → B) {s0 : S} (h0 : I 0 s0)
    (hI : ∀ i s y, a[i]? = some y → I i s → I (i + 1) (st s y)) (hF : ∀ self s (i : Nat) y, a[i]? = some y → I i s → F self (s, (i : Int)) = self (st s y, ((i + 1 : Nat) : Int)))
    (hE : ∀ self s, I a.length s → F self (s, (a.length : Int)) = some (R s)) : loopT BIG F (s0, 0) = some (R (a.foldl st s0)) := by
  have := loop_eq (F := F) (fun x => ∃ i : Nat, x.2 = i ∧ i ≤ a.length ∧ I i x.1) (fun x => a.length - x.2.toNat) (fun x => R ((a.drop x.2.toNat).foldl st x.1)) (fun self x ⟨i, h1, h2, h3⟩ hs => ?_) (n := BIG) (x := (s0, 0)) (by simp; exact hl) ⟨0, rfl, by simp, h0⟩
  · simpa using this
  · obtain ⟨s, j⟩ := x
    simp only at h1 h2 h3
    subst h1
    by_cases hi : i < a.length
    · have hy := List.getElem?_eq_getElem hi
      rw [hF self s i a[i] hy h3, hs _ ⟨i + 1, rfl, hi, hI _ _ _ hy h3⟩ (by simp; omega)]
      simp only [Int.toNat_natCast]
      rw [List.drop_eq_getElem_cons hi, List.foldl_cons]
    · have : i = a.length := by omega
      subst this
      rw [hE self s h3]
      simp
/-- A row bears marks that go from a number to a number. -/
def HdL {α : Type} (hd : Int → α → Int → Prop) : Int → List α → Int → Prop
  | k, [], k' => k' = k
  | k, z :: t, k' => ∃ k1, hd k z k1 ∧ HdL hd k1 t k'
theorem HdL.snoc {α : Type} {hd : Int → α → Int → Prop} : ∀ {t : List α} {k k1 k2 : Int} {z : α}, HdL hd k t k1 → hd k1 z k2 → HdL hd k (t ++ [z]) k2
  | [], _, _, _, _, h, h' => by cases h; exact ⟨_, h', rfl⟩
  | _ :: _, _, _, _, _, ⟨k3, h1, h2⟩, h' => ⟨k3, h1, h2.snoc h'⟩
/-- A loop that marks each of a row. -/
theorem mkLoop {α : Type} (hd : Int → α → Int → Prop) (C : Int) (hC : 0 ≤ C) (a : List α) (k0 : Int) (hl : a.length < 18446744073709551616)
    {F : (List α × Int × Int → Option (List α × Int)) → List α × Int × Int → Option (List α × Int)}
    (hF : ∀ self out (i : Nat) (k : Int) y, i < a.length → out.length = a.length → out[i]? = some y → a[i]? = some y → k0 ≤ k → k ≤ k0 + C * i →
      ∃ z k', hd k z k' ∧ k ≤ k' ∧ k' ≤ k + C ∧ F self (out, k, (i : Int)) = self (out.set i z, k', ((i + 1 : Nat) : Int)))
    (hE : ∀ self out k, out.length = a.length → F self (out, k, (a.length : Int)) = some (out, k)) :
    ∃ t k', loopT BIG F (a, k0, 0) = some (t, k') ∧ HdL hd k0 t k' ∧ t.length = a.length ∧ k0 ≤ k' ∧ k' ≤ k0 + C * a.length := by
  have := loop_rel (F := F) (fun x => ∃ (i : Nat) (t : List α), x.2.2 = i ∧ i ≤ a.length ∧ t.length = i ∧ x.1 = t ++ a.drop i ∧ HdL hd k0 t x.2.1 ∧ k0 ≤ x.2.1 ∧ x.2.1 ≤ k0 + C * i) (fun x => a.length - x.2.2.toNat)
    (fun _ r => HdL hd k0 r.1 r.2 ∧ r.1.length = a.length ∧ k0 ≤ r.2 ∧ r.2 ≤ k0 + C * a.length) (fun self x ⟨i, t, h1, h2, h3, h4, h5, h6, h7⟩ hs => ?_) (n := BIG) (x := (a, k0, 0)) (by simp; exact hl)
    ⟨0, [], rfl, by simp, rfl, by simp, rfl, Int.le_refl _, by simp⟩
  · obtain ⟨⟨t, k'⟩, h1, h2⟩ := this
    exact ⟨t, k', h1, h2⟩
  · obtain ⟨out, k, j⟩ := x
    simp only at h1 h4 h5 h6 h7
    subst h1 h3
    have hlen : out.length = a.length := by rw [h4]; simp; omega
    by_cases hi : t.length < a.length
    · have hy := List.getElem?_eq_getElem hi
      have ho : out[t.length]? = a[t.length]? := by rw [h4, List.getElem?_append_right (Nat.le_refl _)]; simp
      obtain ⟨z, k', g1, g2, g3, g4⟩ := hF self out t.length k _ hi hlen (by rw [ho, hy]) hy h6 h7
      rw [g4]
      have e : out.set t.length z = (t ++ [z]) ++ a.drop (t.length + 1) := by
        rw [h4, List.set_append_right _ _ (Nat.le_refl _), Nat.sub_self, List.drop_eq_getElem_cons hi, List.set_cons_zero, List.append_assoc]
        rfl
      have hm : C * ((t.length + 1 : Nat) : Int) = C * (t.length : Int) + C := by rw [Int.natCast_add, Int.mul_add]; simp
      exact hs _ ⟨t.length + 1, t ++ [z], rfl, hi, by simp, e, h5.snoc g1, by simp only; omega, by simp only; omega⟩ (by simp only [Int.toNat_natCast]; omega)
    · have hi' : t.length = a.length := by omega
      rw [hi', hE self out k hlen]
      rw [hi', List.drop_length, List.append_nil] at h4
      subst h4
      exact ⟨_, rfl, h5, hi', h6, by rw [← hi']; exact h7⟩
/-- A loop that holds a row against its marks. -/
theorem hdLoop {α B : Type} (hd : Int → α → Int → Prop) (a : List α) (k0 k9 : Int) (hl : a.length < 18446744073709551616) (h : HdL hd k0 a k9)
    {F : (Int × Int → Option (Int ⊕ B)) → Int × Int → Option (Int ⊕ B)}
    (hF : ∀ self (i : Nat) (k k' : Int) z, a[i]? = some z → hd k z k' → F self (k, (i : Int)) = self (k', ((i + 1 : Nat) : Int)))
    (hE : ∀ self k, F self (k, (a.length : Int)) = some (.inl k)) : loopT BIG F (k0, 0) = some (.inl k9) := by
  have := loop_eq (F := F) (fun x => ∃ i : Nat, x.2 = i ∧ i ≤ a.length ∧ HdL hd x.1 (a.drop i) k9) (fun x => a.length - x.2.toNat) (fun _ => .inl k9) (fun self x ⟨i, h1, h2, h3⟩ hs => ?_) (n := BIG) (x := (k0, 0)) (by simp; exact hl) ⟨0, rfl, by simp, by simpa using h⟩
  · exact this
  · obtain ⟨k, j⟩ := x
    simp only at h1 h3
    subst h1
    by_cases hi : i < a.length
    · rw [List.drop_eq_getElem_cons hi] at h3
      obtain ⟨k1, g1, g2⟩ := h3
      rw [hF self i k k1 _ (List.getElem?_eq_getElem hi) g1]
      exact hs _ ⟨i + 1, rfl, hi, g2⟩ (by simp; omega)
    · have : i = a.length := by omega
      subst this
      rw [List.drop_length] at h3
      cases h3
      exact hE self _
/-- Two vertices hang together by edges. -/
inductive Con (E : List (Int × Int)) : Int → Int → Prop
  | refl (v : Int) : Con E v v
  | fwd {u v w : Int} : Con E u v → (v, w) ∈ E → Con E u w
  | bwd {u v w : Int} : Con E u v → (w, v) ∈ E → Con E u w
theorem Con.trans {E : List (Int × Int)} {u v w : Int} (h : Con E u v) (h' : Con E v w) : Con E u w := by
  induction h' with
  | refl => exact h
  | fwd _ he ih => exact .fwd ih he
  | bwd _ he ih => exact .bwd ih he
theorem Con.symm {E : List (Int × Int)} {u v : Int} (h : Con E u v) : Con E v u := by
  induction h with
  | refl => exact .refl _
  | fwd _ he ih => exact Con.trans (.bwd (.refl _) he) ih
  | bwd _ he ih => exact Con.trans (.fwd (.refl _) he) ih
theorem Con.mono {E E' : List (Int × Int)} (hE : ∀ e, e ∈ E → e ∈ E') {u v : Int} (h : Con E u v) : Con E' u v := by
  induction h with
  | refl => exact .refl _
  | fwd _ he ih => exact .fwd ih (hE _ he)
  | bwd _ he ih => exact .bwd ih (hE _ he)
theorem Con.of {E : List (Int × Int)} {u v : Int} (h : (u, v) ∈ E) : Con E u v := .fwd (.refl _) h
theorem Con.nil {u v : Int} (h : Con [] u v) : u = v := by
  induction h with
  | refl => rfl
  | fwd _ he _ => cases he
  | bwd _ he _ => cases he
theorem Con.snoc {E : List (Int × Int)} {a b u v : Int} : Con (E ++ [(a, b)]) u v ↔ Con E u v ∨ (Con E u a ∧ Con E b v) ∨ (Con E u b ∧ Con E a v) := by
  constructor
  · intro h
    induction h with
    | refl => exact .inl (.refl _)
    | fwd _ he ih =>
      rcases List.mem_append.1 he with h1 | h1
      · rcases ih with h | ⟨h, h'⟩ | ⟨h, h'⟩
        · exact .inl (.fwd h h1)
        · exact .inr (.inl ⟨h, .fwd h' h1⟩)
        · exact .inr (.inr ⟨h, .fwd h' h1⟩)
      · cases List.mem_singleton.1 h1
        rcases ih with h | ⟨h, h'⟩ | ⟨h, h'⟩
        · exact .inr (.inl ⟨h, .refl _⟩)
        · exact .inr (.inl ⟨h, .refl _⟩)
        · exact .inl h
    | bwd _ he ih =>
      rcases List.mem_append.1 he with h1 | h1
      · rcases ih with h | ⟨h, h'⟩ | ⟨h, h'⟩
        · exact .inl (.bwd h h1)
        · exact .inr (.inl ⟨h, .bwd h' h1⟩)
        · exact .inr (.inr ⟨h, .bwd h' h1⟩)
      · cases List.mem_singleton.1 h1
        rcases ih with h | ⟨h, h'⟩ | ⟨h, h'⟩
        · exact .inr (.inr ⟨h, .refl _⟩)
        · exact .inl h
        · exact .inr (.inr ⟨h, .refl _⟩)
  · have hm : ∀ {x y : Int}, Con E x y → Con (E ++ [(a, b)]) x y := fun h => h.mono fun e he => List.mem_append_left _ he
    have hab : Con (E ++ [(a, b)]) a b := .of (List.mem_append_right _ (List.mem_singleton.2 rfl))
    rintro (h | ⟨h, h'⟩ | ⟨h, h'⟩)
    · exact hm h
    · exact (hm h).trans (hab.trans (hm h'))
    · exact (hm h).trans (hab.symm.trans (hm h'))
/-- Edges of so many vertices. -/
def EIn (n : Nat) (E : List (Int × Int)) : Prop := ∀ e, e ∈ E → 0 ≤ e.1 ∧ e.1 < n ∧ 0 ≤ e.2 ∧ e.2 < n
theorem Con.range {n : Nat} {E : List (Int × Int)} (hE : EIn n E) {u v : Int} (h : Con E u v) (hu : 0 ≤ u ∧ u < n) : 0 ≤ v ∧ v < n := by
  induction h with
  | refl => exact hu
  | fwd _ he _ => exact ⟨(hE _ he).2.2.1, (hE _ he).2.2.2⟩
  | bwd _ he _ => exact ⟨(hE _ he).1, (hE _ he).2.1⟩
/-- Labels: to each vertex the least one that it hangs together with. -/
def Lab (n : Nat) (E : List (Int × Int)) (l : List Int) : Prop :=
  l.length = n ∧ ∀ (v : Nat) (x : Int), l[v]? = some x → Con E v x ∧ 0 ≤ x ∧ ∀ u : Int, 0 ≤ u → Con E v u → x ≤ u
theorem Lab.le {n : Nat} {E : List (Int × Int)} {l : List Int} (h : Lab n E l) {v : Nat} {x : Int} (hx : l[v]? = some x) : x ≤ v :=
  (h.2 v x hx).2.2 v (Int.natCast_nonneg v) (.refl _)
theorem Lab.lt {n : Nat} {E : List (Int × Int)} {l : List Int} (h : Lab n E l) {v : Nat} {x : Int} (hx : l[v]? = some x) : 0 ≤ x ∧ x < n := by
  have h1 := h.le hx
  have h2 := (List.getElem?_eq_some_iff.1 hx).1
  have h3 := (h.2 v x hx).2.1
  have h4 := h.1
  omega
theorem Lab.iff {n : Nat} {E : List (Int × Int)} {l : List Int} (h : Lab n E l) {u v : Nat} {x y : Int} (hx : l[u]? = some x) (hy : l[v]? = some y) : x = y ↔ Con E u v := by
  have h1 := h.2 u x hx
  have h2 := h.2 v y hy
  constructor
  · intro e
    subst e
    exact h1.1.trans h2.1.symm
  · intro c
    have a := h1.2.2 y h2.2.1 (c.trans h2.1)
    have b := h2.2.2 x h1.2.1 (c.symm.trans h1.1)
    omega
/-- A label is its own label. -/
theorem Lab.self {n : Nat} {E : List (Int × Int)} {l : List Int} (h : Lab n E l) {v : Nat} {x : Int} (hx : l[v]? = some x) : l[x.toNat]? = some x := by
  have h1 := h.lt hx
  have hi : x.toNat < l.length := by rw [h.1]; omega
  rw [List.getElem?_eq_getElem hi]
  have h2 := h.2 v x hx
  have hc : Con E (x.toNat : Int) v := by rw [Int.toNat_of_nonneg h1.1]; exact h2.1.symm
  rw [(h.iff (List.getElem?_eq_getElem hi) hx).2 hc]
/-- Labels without edges. -/
def lab0 (n : Nat) : List Int := (List.range n).map fun (i : Nat) => (i : Int)
theorem lab0_get {n v : Nat} {x : Int} (h : (lab0 n)[v]? = some x) : v < n ∧ x = v := by
  have hi := (List.getElem?_eq_some_iff.1 h).1
  simp only [lab0, List.length_map, List.length_range] at hi
  simp only [lab0, List.getElem?_map, List.getElem?_range hi, Option.map_some, Option.some.injEq] at h
  exact ⟨hi, h.symm⟩
theorem lab0_len (n : Nat) : (lab0 n).length = n := by simp [lab0]
theorem Lab.zero (n : Nat) : Lab n [] (lab0 n) := by
  refine ⟨lab0_len n, fun v x h => ?_⟩
  obtain ⟨_, rfl⟩ := lab0_get h
  exact ⟨.refl _, Int.natCast_nonneg v, fun u _ h => by rw [h.nil]; exact Int.le_refl _⟩
/-- Two labels made one. -/
def unL (l : List Int) (x y : Int) : List Int := l.map fun z => if z = (if y > x then y else x) then (if y < x then y else x) else z
theorem unL_len (l : List Int) (x y : Int) : (unL l x y).length = l.length := by simp [unL]
theorem Lab.union {n : Nat} {E : List (Int × Int)} {l : List Int} (h : Lab n E l) {a b : Nat} {x y : Int} (hx : l[a]? = some x) (hy : l[b]? = some y) : Lab n (E ++ [((a : Int), (b : Int))]) (unL l x y) := by
  refine ⟨by rw [unL_len, h.1], fun v z hz => ?_⟩
  simp only [unL, List.getElem?_map, Option.map_eq_some_iff] at hz
  obtain ⟨w, hw, hz⟩ := hz
  have hax := h.2 a x hx
  have hby := h.2 b y hy
  have hvw := h.2 v w hw
  have ew : ∀ {c : Nat} {t : Int}, l[c]? = some t → (w = t ↔ Con E v c) := fun hc => h.iff hw hc
  have hA := ew hx
  have hB := ew hy
  have hab : Con (E ++ [((a : Int), (b : Int))]) a b := .of (List.mem_append_right _ (List.mem_singleton.2 rfl))
  have hm : ∀ {s t : Int}, Con E s t → Con (E ++ [((a : Int), (b : Int))]) s t := fun h => h.mono fun e he => List.mem_append_left _ he
  by_cases hxy : x = y
  · subst hxy
    have hcab : Con E a b := (h.iff hx hy).1 rfl
    have : z = w := by
      subst hz
      simp only [gt_iff_lt, Int.lt_irrefl, if_false]
      split <;> simp_all
    subst this
    refine ⟨hm hvw.1, hvw.2.1, fun u hu hc => ?_⟩
    apply hvw.2.2 u hu
    rcases Con.snoc.1 hc with h1 | ⟨h1, h2⟩ | ⟨h1, h2⟩
    · exact h1
    · exact h1.trans (hcab.trans h2)
    · exact h1.trans (hcab.symm.trans h2)
  · have key : ∀ u : Int, 0 ≤ u → Con (E ++ [((a : Int), (b : Int))]) v u → (w ≤ u) ∨ (w = x ∧ y ≤ u) ∨ (w = y ∧ x ≤ u) := by
      intro u hu hc
      rcases Con.snoc.1 hc with h1 | ⟨h1, h2⟩ | ⟨h1, h2⟩
      · exact .inl (hvw.2.2 u hu h1)
      · exact .inr (.inl ⟨hA.2 h1, hby.2.2 u hu h2⟩)
      · exact .inr (.inr ⟨hB.2 h1, hax.2.2 u hu h2⟩)
    by_cases hwx : w = x
    · have hva := hA.1 hwx
      subst hwx
      by_cases hlt : y > w
      · rw [if_pos hlt, if_neg (by omega)] at hz
        subst hz
        refine ⟨hm hvw.1, hvw.2.1, fun u hu hc => ?_⟩
        rcases key u hu hc with h1 | h1 | h1 <;> omega
      · rw [if_neg hlt, if_pos rfl, if_pos (by omega)] at hz
        subst hz
        refine ⟨(hm hva).trans (hab.trans (hm hby.1)), hby.2.1, fun u hu hc => ?_⟩
        rcases key u hu hc with h1 | h1 | h1 <;> omega
    · by_cases hwy : w = y
      · have hvb := hB.1 hwy
        subst hwy
        by_cases hlt : w > x
        · rw [if_pos hlt, if_pos rfl, if_neg (by omega)] at hz
          subst hz
          refine ⟨(hm hvb).trans (hab.symm.trans (hm hax.1)), hax.2.1, fun u hu hc => ?_⟩
          rcases key u hu hc with h1 | h1 | h1 <;> omega
        · rw [if_neg hlt, if_neg hwx] at hz
          subst hz
          refine ⟨hm hvw.1, hvw.2.1, fun u hu hc => ?_⟩
          rcases key u hu hc with h1 | h1 | h1 <;> omega
      · rw [if_neg (by split <;> omega)] at hz
        subst hz
        refine ⟨hm hvw.1, hvw.2.1, fun u hu hc => ?_⟩
        rcases key u hu hc with h1 | h1 | h1 <;> omega
/-- One edge's part in the labels. -/
def unE (l : List Int) (e : Int × Int) : List Int := unL l (l.getD e.1.toNat 0) (l.getD e.2.toNat 0)
theorem Lab.unE {n : Nat} {E : List (Int × Int)} {l : List Int} (h : Lab n E l) {e : Int × Int} (he : 0 ≤ e.1 ∧ e.1 < n ∧ 0 ≤ e.2 ∧ e.2 < n) : Lab n (E ++ [e]) (unE l e) := by
  have h1 : e.1.toNat < l.length := by rw [h.1]; omega
  have h2 : e.2.toNat < l.length := by rw [h.1]; omega
  have := h.union (a := e.1.toNat) (b := e.2.toNat) (List.getElem?_eq_getElem h1) (List.getElem?_eq_getElem h2)
  rw [Int.toNat_of_nonneg he.1, Int.toNat_of_nonneg he.2.2.1] at this
  unfold Go.Fw.unE
  rw [List.getD_eq_getElem?_getD, List.getD_eq_getElem?_getD, List.getElem?_eq_getElem h1, List.getElem?_eq_getElem h2]
  exact this
theorem Lab.fold {n : Nat} : ∀ {D E : List (Int × Int)} {l : List Int}, Lab n E l → EIn n D → Lab n (E ++ D) (D.foldl Go.Fw.unE l)
  | [], E, l, h, _ => by simpa using h
  | e :: D, E, l, h, hD => by
    have := Lab.fold (D := D) (h.unE (hD e (List.mem_cons_self ..))) fun x hx => hD x (List.mem_cons_of_mem _ hx)
    rw [List.foldl_cons]
    rwa [List.append_assoc] at this
/-- The labels by edges. -/
def labs (n : Nat) (E : List (Int × Int)) : List Int := E.foldl unE (lab0 n)
theorem labs_ok {n : Nat} {E : List (Int × Int)} (h : EIn n E) : Lab n E (labs n E) := by
  have := (Lab.zero n).fold h
  simpa [labs] using this
/-- One edge's part in a round of labels that are made less and less. -/
def rlE (l : List Int) (e : Int × Int) : List Int :=
  let x := l.getD e.1.toNat 0
  let y := l.getD e.2.toNat 0
  let l := if x < y then l.set e.2.toNat x else l
  if y < x then l.set e.1.toNat y else l
theorem rlE_len (l : List Int) (e : Int × Int) : (rlE l e).length = l.length := by
  unfold rlE; simp only; split <;> split <;> simp
def lrnd (E : List (Int × Int)) (l : List Int) : List Int := E.foldl rlE l
theorem lrnd_len : ∀ (E : List (Int × Int)) (l : List Int), (lrnd E l).length = l.length
  | [], l => rfl
  | e :: E, l => by show (lrnd E (rlE l e)).length = _; rw [lrnd_len E, rlE_len]
section
variable {n : Nat} {E : List (Int × Int)} {L : List Int}
/-- On the way down to the labels. -/
def Dn (n : Nat) (E : List (Int × Int)) (l : List Int) : Prop := l.length = n ∧ ∀ (v : Nat) (x : Int), l[v]? = some x → Con E v x ∧ 0 ≤ x
theorem Dn.ge (hL : Lab n E L) {l : List Int} (h : Dn n E l) {v : Nat} {x y : Int} (hx : l[v]? = some x) (hy : L[v]? = some y) : y ≤ x :=
  (hL.2 v y hy).2.2 x (h.2 v x hx).2 (h.2 v x hx).1
theorem Dn.set {l : List Int} (h : Dn n E l) {v : Nat} {x : Int} (hc : Con E v x) (h0 : 0 ≤ x) : Dn n E (l.set v x) := by
  refine ⟨by simp [h.1], fun u y hu => ?_⟩
  rw [List.getElem?_set] at hu
  split at hu
  · subst v
    split at hu
    · cases hu; exact ⟨hc, h0⟩
    · cases hu
  · exact h.2 u y hu
theorem getD_at {l : List Int} {i : Nat} (h : i < l.length) : l[i]? = some (l.getD i 0) := by
  rw [List.getD_eq_getElem?_getD, List.getElem?_eq_getElem h]; rfl
/-- What an edge's part does. -/
theorem Dn.rlE (hL : Lab n E L) {l : List Int} (h : Dn n E l) {e : Int × Int} (hm : e ∈ E) (he : 0 ≤ e.1 ∧ e.1 < n ∧ 0 ≤ e.2 ∧ e.2 < n) :
    Dn n E (rlE l e) ∧ (∀ (v : Nat), (rlE l e).getD v 0 ≤ l.getD v 0) ∧
    (l.getD e.1.toNat 0 = L.getD e.1.toNat 0 → (rlE l e).getD e.2.toNat 0 = L.getD e.2.toNat 0) ∧
    (l.getD e.2.toNat 0 = L.getD e.2.toNat 0 → (rlE l e).getD e.1.toNat 0 = L.getD e.1.toNat 0) := by
  obtain ⟨h1, h2, h3, h4⟩ := he
  have i1 : e.1.toNat < l.length := by rw [h.1]; omega
  have i2 : e.2.toNat < l.length := by rw [h.1]; omega
  have j1 : e.1.toNat < L.length := by rw [hL.1]; omega
  have j2 : e.2.toNat < L.length := by rw [hL.1]; omega
  have c12 : Con E (e.1.toNat : Int) (e.2.toNat : Int) := by
    rw [Int.toNat_of_nonneg h1, Int.toNat_of_nonneg h3]; exact .of hm
  have hLe := (hL.iff (getD_at j1) (getD_at j2)).2 c12
  have a1 := h.2 _ _ (getD_at i1)
  have a2 := h.2 _ _ (getD_at i2)
  have g1 := h.ge hL (getD_at i1) (getD_at j1)
  have g2 := h.ge hL (getD_at i2) (getD_at j2)
  have gs : ∀ (i : Nat) (z : Int) (v : Nat), i < l.length → (l.set i z).getD v 0 = if i = v then z else l.getD v 0 := by
    intro i z v hi
    rw [List.getD_eq_getElem?_getD, List.getElem?_set]
    split
    · subst v; simp
    · rw [List.getD_eq_getElem?_getD]
  unfold Go.Fw.rlE
  simp only
  by_cases hlt : l.getD e.1.toNat 0 < l.getD e.2.toNat 0
  · rw [if_pos hlt, if_neg (by omega)]
    refine ⟨h.set (c12.symm.trans a1.1) a1.2, fun v => ?_, fun hd => ?_, fun hd => ?_⟩
    · rw [gs _ _ _ i2]
      split
      · subst v; omega
      · exact Int.le_refl _
    · rw [gs _ _ _ i2, if_pos rfl]; omega
    · omega
  · rw [if_neg hlt]
    by_cases hgt : l.getD e.2.toNat 0 < l.getD e.1.toNat 0
    · rw [if_pos hgt]
      refine ⟨h.set (c12.trans a2.1) a2.2, fun v => ?_, fun hd => ?_, fun hd => ?_⟩
      · rw [gs _ _ _ i1]
        split
        · subst v; omega
        · exact Int.le_refl _
      · omega
      · rw [gs _ _ _ i1, if_pos rfl]; omega
    · rw [if_neg hgt]
      refine ⟨h, fun v => Int.le_refl _, fun hd => ?_, fun hd => ?_⟩ <;> omega
theorem Dn.rnd (hL : Lab n E L) (hE : EIn n E) : ∀ (D : List (Int × Int)) (l : List Int), (∀ e, e ∈ D → e ∈ E) → Dn n E l →
    Dn n E (lrnd D l) ∧ (∀ v : Nat, (lrnd D l).getD v 0 ≤ l.getD v 0) ∧
    ∀ e, e ∈ D → (l.getD e.1.toNat 0 = L.getD e.1.toNat 0 → (lrnd D l).getD e.2.toNat 0 = L.getD e.2.toNat 0) ∧ (l.getD e.2.toNat 0 = L.getD e.2.toNat 0 → (lrnd D l).getD e.1.toNat 0 = L.getD e.1.toNat 0)
  | [], l, _, h => ⟨h, fun v => Int.le_refl _, fun e he => by cases he⟩
  | e :: D, l, hs, h => by
    have hm := hs e (List.mem_cons_self ..)
    obtain ⟨h1, h2, h3, h4⟩ := h.rlE hL hm (hE e hm)
    obtain ⟨k1, k2, k3⟩ := Dn.rnd hL hE D (Go.Fw.rlE l e) (fun x hx => hs x (List.mem_cons_of_mem _ hx)) h1
    -- what is done stays done
    have dn : ∀ {l' : List Int} (v : Nat), v < n → Dn n E l' → (∀ u : Nat, l'.getD u 0 ≤ l.getD u 0) → l.getD v 0 = L.getD v 0 → l'.getD v 0 = L.getD v 0 := by
      intro l' v hv hl' hle hd
      have hg := hl'.ge hL (getD_at (l := l') (i := v) (by rw [hl'.1]; exact hv)) (getD_at (l := L) (i := v) (by rw [hL.1]; exact hv))
      have := hle v
      omega
    have dn' : ∀ (v : Nat), v < n → (Go.Fw.rlE l e).getD v 0 = L.getD v 0 → (Go.Fw.lrnd D (Go.Fw.rlE l e)).getD v 0 = L.getD v 0 := by
      intro v hv hd
      have hg := k1.ge hL (getD_at (i := v) (by rw [k1.1]; exact hv)) (getD_at (l := L) (i := v) (by rw [hL.1]; exact hv))
      have := k2 v
      omega
    refine ⟨k1, fun v => Int.le_trans (k2 v) (h2 v), fun e' he' => ?_⟩
    rcases List.mem_cons.1 he' with rfl | he'
    · have hb := hE _ hm
      exact ⟨fun hd => dn' _ (by omega) (h3 hd), fun hd => dn' _ (by omega) (h4 hd)⟩
    · have hb := hE _ (hs e' (List.mem_cons_of_mem _ he'))
      exact ⟨fun hd => (k3 e' he').1 (dn _ (by omega) h1 h2 hd), fun hd => (k3 e' he').2 (dn _ (by omega) h1 h2 hd)⟩
/-- How many vertices have their label. -/
def cntD (n : Nat) (L l : List Int) : Nat := (List.range n).countP fun v => decide (l.getD v 0 = L.getD v 0)
theorem countP_lt {p q : Nat → Bool} : ∀ {m : List Nat}, (∀ x, x ∈ m → p x = true → q x = true) → (∃ x, x ∈ m ∧ p x = false ∧ q x = true) → m.countP p < m.countP q
  | [], _, ⟨x, hx, _⟩ => by cases hx
  | a :: m, h, ⟨x, hx, hp, hq⟩ => by
    rw [List.countP_cons, List.countP_cons]
    have hle : m.countP p ≤ m.countP q := List.countP_mono_left fun y hy => h y (List.mem_cons_of_mem _ hy)
    rcases List.mem_cons.1 hx with rfl | hx
    · rw [if_neg (by simp [hp]), if_pos hq]; omega
    · have := countP_lt (fun y hy => h y (List.mem_cons_of_mem _ hy)) ⟨x, hx, hp, hq⟩
      have ha := h a (List.mem_cons_self ..)
      cases hpa : p a with
      | true => rw [ha hpa]; simp; omega
      | false => cases hqa : q a <;> simp <;> omega
theorem con_step {D : Int → Prop} {u v : Int} (h : Con E u v) (hu : D u) (hv : ¬ D v) : ∃ x y : Int, D x ∧ ¬ D y ∧ ((x, y) ∈ E ∨ (y, x) ∈ E) := by
  induction h with
  | refl => exact absurd hu hv
  | @fwd a b _ he ih =>
    by_cases hb : D a
    · exact ⟨_, _, hb, hv, .inl he⟩
    · exact ih hb
  | @bwd a b _ he ih =>
    by_cases hb : D a
    · exact ⟨_, _, hb, hv, .inr he⟩
    · exact ih hb
def lrnds (E : List (Int × Int)) : Nat → List Int → List Int
  | 0, l => l
  | k + 1, l => lrnds E k (Go.Fw.lrnd E l)
/-- A round that does not end it makes one more vertex right. -/
theorem lrnd_more (hL : Lab n E L) (hE : EIn n E) {l : List Int} (h : Dn n E l) (hs : ∀ v : Nat, v < n → L.getD v 0 = v → l.getD v 0 = v) (hne : l ≠ L) :
    cntD n L l < cntD n L (Go.Fw.lrnd E l) := by
  obtain ⟨k1, k2, k3⟩ := Dn.rnd hL hE E l (fun _ h => h) h
  have stay : ∀ v : Nat, v < n → l.getD v 0 = L.getD v 0 → (Go.Fw.lrnd E l).getD v 0 = L.getD v 0 := by
    intro v hv hd
    have hg := k1.ge hL (getD_at (i := v) (by rw [k1.1]; exact hv)) (getD_at (l := L) (i := v) (by rw [hL.1]; exact hv))
    have := k2 v
    omega
  have : ∃ v : Nat, v < n ∧ l.getD v 0 ≠ L.getD v 0 := by
    apply Classical.byContradiction
    intro hn
    apply hne
    apply List.ext_getElem?
    intro i
    by_cases hi : i < n
    · rw [getD_at (l := l) (i := i) (by rw [h.1]; exact hi), getD_at (l := L) (i := i) (by rw [hL.1]; exact hi)]
      congr 1
      exact Classical.byContradiction fun hc => hn ⟨i, hi, hc⟩
    · rw [List.getElem?_eq_none (by rw [h.1]; omega), List.getElem?_eq_none (by rw [hL.1]; omega)]
  obtain ⟨v, hv, hnd⟩ := this
  have gL := getD_at (l := L) (i := v) (by rw [hL.1]; exact hv)
  have hm := hL.lt gL
  have hself := hL.self gL
  have hcon := (hL.2 v _ gL).1
  obtain ⟨x, y, hx, hy, he⟩ := con_step (D := fun z : Int => 0 ≤ z ∧ z < n ∧ l.getD z.toNat 0 = L.getD z.toNat 0) hcon.symm
    ⟨hm.1, hm.2, by
      have e1 : L.getD (L.getD v 0).toNat 0 = L.getD v 0 := by rw [List.getD_eq_getElem?_getD (i := (L.getD v 0).toNat), hself]; rfl
      rw [e1, hs (L.getD v 0).toNat (by omega) (by rw [e1]; omega)]; omega⟩
    (fun hd => hnd (by simpa using hd.2.2))
  refine countP_lt (fun z hz hp => ?_) ⟨y.toNat, ?_, ?_, ?_⟩
  · simp only [decide_eq_true_eq] at hp ⊢
    exact stay z (List.mem_range.1 hz) hp
  · rw [List.mem_range]
    rcases he with he | he <;> have := hE _ he <;> simp only at this <;> omega
  · simp only [decide_eq_false_iff_not]
    intro hd
    apply hy
    rcases he with he | he <;> have := hE _ he <;> simp only at this <;> exact ⟨by omega, by omega, hd⟩
  · simp only [decide_eq_true_eq]
    rcases he with he | he
    · exact (k3 _ he).1 hx.2.2
    · exact (k3 _ he).2 hx.2.2
theorem lrnds_end (hL : Lab n E L) (hE : EIn n E) : ∀ (k : Nat) (l : List Int), Dn n E l → (∀ v : Nat, v < n → L.getD v 0 = v → l.getD v 0 = v) → n ≤ cntD n L l + k → lrnds E k l = L
  | 0, l, h, hs, hc => by
    have hall : cntD n L l = n := by
      have : cntD n L l ≤ (List.range n).length := List.countP_le_length
      rw [List.length_range] at this; omega
    apply Classical.byContradiction
    intro hne
    have := lrnd_more hL hE h hs hne
    have : cntD n L (Go.Fw.lrnd E l) ≤ (List.range n).length := List.countP_le_length
    rw [List.length_range] at this
    omega
  | k + 1, l, h, hs, hc => by
    obtain ⟨k1, k2, _⟩ := Dn.rnd hL hE E l (fun _ h => h) h
    refine lrnds_end hL hE k (Go.Fw.lrnd E l) k1 (fun v hv e => ?_) ?_
    · have hg := k1.ge hL (getD_at (i := v) (by rw [k1.1]; exact hv)) (getD_at (l := L) (i := v) (by rw [hL.1]; exact hv))
      have := k2 v
      have := hs v hv e
      omega
    · by_cases hne : l = L
      · subst hne
        have : cntD n l (Go.Fw.lrnd E l) = n := by
          unfold cntD
          rw [show n = (List.range n).length from by simp, ← List.length_range (n := n), List.countP_eq_length.2]
          · simp
          · intro v hv
            simp only [List.length_range, List.mem_range] at hv
            simp only [decide_eq_true_eq]
            have hg := k1.ge hL (getD_at (i := v) (by rw [k1.1]; exact hv)) (getD_at (l := l) (i := v) (by rw [hL.1]; exact hv))
            have := k2 v
            omega
        omega
      · have := lrnd_more hL hE h hs hne
        omega
/-- So many rounds as there are vertices make the labels. -/
theorem lrnds_labs (hE : EIn n E) : lrnds E n (lab0 n) = labs n E := by
  refine lrnds_end (labs_ok hE) hE n (lab0 n) ⟨lab0_len n, fun v x h => ?_⟩ (fun v hv e => ?_) (by omega)
  · obtain ⟨_, rfl⟩ := lab0_get h
    exact ⟨.refl _, Int.natCast_nonneg v⟩
  · have := getD_at (l := lab0 n) (i := v) (by rw [lab0_len]; exact hv)
    exact (lab0_get this).2
end
theorem h_sl01In (a b c : Int) : g_sl01In (a, b, c) = some (decide (b ≤ a) && decide (a ≤ c), ()) := by
  show f_sl01In BIG _ = _
  rw [e_sl01In]
  cases decide (b ≤ a) <;> rfl
theorem h_iin (a b c : Int) : g_iin (a, b, c) = some (decide (b ≤ a) && decide (a ≤ c), ()) := by
  show f_iin BIG _ = _
  rw [e_iin]
  cases decide (b ≤ a) <;> rfl
abbrev Ed := Int × Int
abbrev Sd := Int × Int × Int × Int × Int × Int
def inB (a b c : Int) : Bool := decide (b ≤ a) && decide (a ≤ c)
theorem h_sl01In' (a b c : Int) : g_sl01In (a, b, c) = some (inB a b c, ()) := h_sl01In a b c
theorem h_iin' (a b c : Int) : g_iin (a, b, c) = some (inB a b c, ()) := h_iin a b c
theorem inB_t {a b c : Int} : inB a b c = true ↔ b ≤ a ∧ a ≤ c := by simp [inB]
def edB (n : Int) (e : Ed) : Bool := inB n 1 12 && (inB e.1 0 (n - 1) && (inB e.2 0 (n - 1) && decide (e.1 < e.2)))
def lsB (x y : Ed) : Bool := decide (x.1 < y.1) || (decide (x.1 = y.1) && decide (x.2 < y.2))
def eP (n : Int) (es : List Ed) (i : Nat) : Bool := match es[i]? with
  | some y => edB n y && (match i with
    | 0 => true
    | j + 1 => match es[j]? with
      | some x => lsB x y
      | none => false)
  | none => false
def eOk (n : Int) (es : List Ed) : Bool := if ∀ i, i < es.length → eP n es i = true then decide ((es.length : Int) ≤ 66) else false
def lbP (l : List Int) (i : Nat) : Bool := match l[i]? with
  | some y => inB y 0 i && (match l[y.toNat]? with
    | some z => decide (z = y)
    | none => false)
  | none => false
def lbOk (n : Int) (l : List Int) : Bool := if (l.length : Int) = n then (if ∀ i, i < l.length → lbP l i = true then true else false) else false
theorem eq_Ask (x0 : Int) (x1 : Int) (x2 : Int) (x3 : Int) (y0 : Int) (y1 : Int) (y2 : Int) (y3 : Int) : g_leqAsk ((x0, x1, x2, x3), (y0, y1, y2, y3)) = some (decide ((x0, x1, x2, x3) = (y0, y1, y2, y3)), ()) := by
  show f_leqAsk BIG _ = _
  rw [e_leqAsk]
  dsimp only
  by_cases c0 : x0 = y0
  case neg =>
    simp [c0]
  rw [decide_eq_true c0, Bool.not_true, cond_false]
  by_cases c1 : x1 = y1
  case neg =>
    simp [c1]
  rw [decide_eq_true c1, Bool.not_true, cond_false]
  by_cases c2 : x2 = y2
  case neg =>
    simp [c2]
  rw [decide_eq_true c2, Bool.not_true, cond_false]
  by_cases c3 : x3 = y3
  case neg =>
    simp [c3]
  rw [decide_eq_true c3, Bool.not_true, cond_false]
  rw [decide_eq_true (by simp_all)]
theorem eq_Edge (x0 : Int) (x1 : Int) (y0 : Int) (y1 : Int) : g_leqEdge ((x0, x1), (y0, y1)) = some (decide ((x0, x1) = (y0, y1)), ()) := by
  show f_leqEdge BIG _ = _
  rw [e_leqEdge]
  dsimp only
  by_cases c0 : x0 = y0
  case neg =>
    simp [c0]
  rw [decide_eq_true c0, Bool.not_true, cond_false]
  by_cases c1 : x1 = y1
  case neg =>
    simp [c1]
  rw [decide_eq_true c1, Bool.not_true, cond_false]
  rw [decide_eq_true (by simp_all)]
theorem eq_Ledge (x0 : Int) (x1 : Int) (x2 : Int) (x3 : Bool) (y0 : Int) (y1 : Int) (y2 : Int) (y3 : Bool) : g_leqLedge ((x0, x1, x2, x3), (y0, y1, y2, y3)) = some (decide ((x0, x1, x2, x3) = (y0, y1, y2, y3)), ()) := by
  show f_leqLedge BIG _ = _
  rw [e_leqLedge]
  dsimp only
  by_cases c0 : x0 = y0
  case neg =>
    simp [c0]
  rw [decide_eq_true c0, Bool.not_true, cond_false]
  by_cases c1 : x1 = y1
  case neg =>
    simp [c1]
  rw [decide_eq_true c1, Bool.not_true, cond_false]
  by_cases c2 : x2 = y2
  case neg =>
    simp [c2]
  rw [decide_eq_true c2, Bool.not_true, cond_false]
  by_cases c3 : x3 = y3
  case neg =>
    rw [show (x3 == y3) = false from by simp [c3]]; simp [c3]
  rw [show (x3 == y3) = true from by simp [c3], Bool.not_true, cond_false]
  rw [decide_eq_true (by simp_all)]
theorem eq_Said (x0 x1 x2 x3 x4 x5 y0 y1 y2 y3 y4 y5 : Int) : g_leqSaid ((x0, x1, x2, x3, x4, x5), (y0, y1, y2, y3, y4, y5)) = some (decide ((x0, x1, x2, x3, x4, x5) = (y0, y1, y2, y3, y4, y5)), ()) := by
  show f_leqSaid BIG _ = _
  rw [e_leqSaid]
  dsimp only
  by_cases c0 : x0 = y0
  case neg =>
    simp [c0]
  rw [decide_eq_true c0, Bool.not_true, cond_false, eq_Ask, Option.bind_some]
  by_cases c1 : (x1, x2, x3, x4) = (y1, y2, y3, y4)
  case neg =>
    rw [decide_eq_false c1, Bool.not_false, cond_true, decide_eq_false]
    intro h; apply c1; simp_all
  rw [decide_eq_true c1, Bool.not_true, cond_false]
  by_cases c2 : x5 = y5
  case neg =>
    simp [c2]
  rw [decide_eq_true c2, Bool.not_true, cond_false]
  rw [decide_eq_true (by simp_all)]
theorem eq_IntS (a b : List (Int)) (h : a.length ≤ 4294967296) : g_leqIntS (a, b) = some (decide (a = b), ()) := by
  have hm : maxLen = 9223372036854775807 := by decide
  show f_leqIntS BIG _ = _
  rw [e_leqIntS]
  by_cases hl : a.length = b.length
  · rw [decide_eq_true (by omega), Bool.not_true, cond_false, eqLoop a b (by omega) hl false]
    · by_cases h : a = b <;> simp [h]
    · intro self i x y hx hy
      have hi := (List.getElem?_eq_some_iff.1 hx).1
      simp only [show ((i : Int) < (a.length : Int)) from by omega, decide_true, cond_true]
      rw [bnd_nat hi, hx, Option.bind_some, bnd_nat (by omega), hy, Option.bind_some]
      rw [wr1 (by omega)]
      by_cases h : x = y <;> simp [h]
    · intro self
      simp
  · rw [decide_eq_false (by omega), Bool.not_false, cond_true, decide_eq_false (fun h => hl (by rw [h]))]
def hd_IntS (k : Int) (z : Int) (k' : Int) : Prop := z = k ∧ k' = k + 1 ∧ 0 ≤ k ∧ k ≤ 4611686018427387904
theorem mh_IntS (a : List (Int)) (k : Int) (h0 : 0 ≤ k) (hk : k + 16777216 ≤ 4611686018427387904) (hz : a.length ≤ 16777216) : ∃ t c, g_lmarkIntS (a, k) = some (c, t) ∧ g_lheldIntS (t, k) = some (c, ()) ∧ k ≤ c ∧ c ≤ k + 16777216 := by
  have hm : maxLen = 9223372036854775807 := by decide
  have L := mkLoop hd_IntS 1 (by omega) a k (by omega) (F := fun self1 x0 =>
    bif decide (x0.2.2 < (x0.1.length : Int)) then
     bnd x0.1.length x0.2.2 fun n2 =>
     Option.bind x0.1[n2]? fun y3 =>
     self1 (x0.1.set n2 x0.2.1, IntKind.wrap .i64 (x0.2.1 + (1 : Int)), IntKind.wrap .i64 (x0.2.2 + (1 : Int)))
    else some (x0.1, x0.2.1)) (by
    intro self out i k y hi hl hy _ hk0 hk1
    have hi' : i < out.length := by omega
    have w1 : IntKind.wrap .i64 (k + 1) = k + 1 := wr (by omega) (by omega)
    refine ⟨k, k + 1, ⟨rfl, rfl, by omega, by omega⟩, by omega, by omega, ?_⟩
    simp only [hl, show ((i : Int) < (a.length : Int)) from by omega, decide_true, cond_true, List.length_set, bnd_nat hi, hy, List.getElem?_set_self hi', Option.bind_some, List.set_set, w1, and_true]
    rw [wr1 (by omega)]) (by
    intro self out k hl
    simp [hl])
  obtain ⟨t, c, e1, e2, e3, e4, e5⟩ := L
  refine ⟨t, c, ?_, ?_, e4, by omega⟩
  · show f_lmarkIntS BIG _ = _
    rw [e_lmarkIntS, e1]
    rfl
  · show f_lheldIntS BIG _ = _
    rw [e_lheldIntS, hdLoop hd_IntS t k c (by omega) e2]
    · rfl
    · intro self i kk kk' z hz ⟨g1, g2, g3, g4⟩
      subst g2
      rw [g1] at hz
      have hi := (List.getElem?_eq_some_iff.1 hz).1
      have w1 : IntKind.wrap .i64 (kk + 1) = kk + 1 := wr (by omega) (by omega)
      simp only [show ((i : Int) < (t.length : Int)) from by omega, decide_true, cond_true, bnd_nat hi, hz, Option.bind_some, w1, Bool.not_true, cond_false, beq_self_eq_true]
      rw [wr1 (by omega)]
    · intro self k
      simp
theorem eq_EdgeS (a b : List (Int × Int)) (h : a.length ≤ 4294967296) : g_leqEdgeS (a, b) = some (decide (a = b), ()) := by
  have hm : maxLen = 9223372036854775807 := by decide
  show f_leqEdgeS BIG _ = _
  rw [e_leqEdgeS]
  by_cases hl : a.length = b.length
  · rw [decide_eq_true (by omega), Bool.not_true, cond_false, eqLoop a b (by omega) hl false]
    · by_cases h : a = b <;> simp [h]
    · intro self i x y hx hy
      have hi := (List.getElem?_eq_some_iff.1 hx).1
      simp only [show ((i : Int) < (a.length : Int)) from by omega, decide_true, cond_true]
      rw [bnd_nat hi, hx, Option.bind_some, bnd_nat (by omega), hy, Option.bind_some]
      rw [wr1 (by omega)]
      rw [eq_Edge _ _ _ _, Option.bind_some]
      by_cases h : x = y <;> simp [h]
    · intro self
      simp
  · rw [decide_eq_false (by omega), Bool.not_false, cond_true, decide_eq_false (fun h => hl (by rw [h]))]
def hd_EdgeS (k : Int) (z : Int × Int) (k' : Int) : Prop := z = (k, k + 1) ∧ k' = k + 1 + 1 ∧ 0 ≤ k ∧ k ≤ 4611686018427387904
theorem mh_EdgeS (a : List (Int × Int)) (k : Int) (h0 : 0 ≤ k) (hk : k + 33554432 ≤ 4611686018427387904) (hz : a.length ≤ 16777216) : ∃ t c, g_lmarkEdgeS (a, k) = some (c, t) ∧ g_lheldEdgeS (t, k) = some (c, ()) ∧ k ≤ c ∧ c ≤ k + 33554432 := by
  have hm : maxLen = 9223372036854775807 := by decide
  have L := mkLoop hd_EdgeS 2 (by omega) a k (by omega) (F := fun self1 x0 =>
    bif decide (x0.2.2 < (x0.1.length : Int)) then
     bnd x0.1.length x0.2.2 fun n2 =>
     Option.bind x0.1[n2]? fun y3 =>
     bnd (x0.1.set n2 (x0.2.1, y3.2)).length x0.2.2 fun n4 =>
     Option.bind (x0.1.set n2 (x0.2.1, y3.2))[n4]? fun y5 =>
     self1 ((x0.1.set n2 (x0.2.1, y3.2)).set n4 (y5.1, IntKind.wrap .i64 (x0.2.1 + (1 : Int))), IntKind.wrap .i64 ((IntKind.wrap .i64 (x0.2.1 + (1 : Int))) + (1 : Int)), IntKind.wrap .i64 (x0.2.2 + (1 : Int)))
    else some (x0.1, x0.2.1)) (by
    intro self out i k y hi hl hy _ hk0 hk1
    have hi' : i < out.length := by omega
    have w1 : IntKind.wrap .i64 (k + 1) = k + 1 := wr (by omega) (by omega)
    have w2 : IntKind.wrap .i64 (k + 1 + 1) = k + 1 + 1 := wr (by omega) (by omega)
    refine ⟨(k, k + 1), k + 1 + 1, ⟨rfl, rfl, by omega, by omega⟩, by omega, by omega, ?_⟩
    simp only [hl, show ((i : Int) < (a.length : Int)) from by omega, decide_true, cond_true, List.length_set, bnd_nat hi, hy, List.getElem?_set_self hi', Option.bind_some, List.set_set, w1, w2, and_true]
    rw [wr1 (by omega)]) (by
    intro self out k hl
    simp [hl])
  obtain ⟨t, c, e1, e2, e3, e4, e5⟩ := L
  refine ⟨t, c, ?_, ?_, e4, by omega⟩
  · show f_lmarkEdgeS BIG _ = _
    rw [e_lmarkEdgeS, e1]
    rfl
  · show f_lheldEdgeS BIG _ = _
    rw [e_lheldEdgeS, hdLoop hd_EdgeS t k c (by omega) e2]
    · rfl
    · intro self i kk kk' z hz ⟨g1, g2, g3, g4⟩
      subst g2
      rw [g1] at hz
      have hi := (List.getElem?_eq_some_iff.1 hz).1
      have w1 : IntKind.wrap .i64 (kk + 1) = kk + 1 := wr (by omega) (by omega)
      have w2 : IntKind.wrap .i64 (kk + 1 + 1) = kk + 1 + 1 := wr (by omega) (by omega)
      simp only [show ((i : Int) < (t.length : Int)) from by omega, decide_true, cond_true, bnd_nat hi, hz, Option.bind_some, w1, w2, Bool.not_true, cond_false, beq_self_eq_true]
      rw [wr1 (by omega)]
    · intro self k
      simp
theorem eq_LedgeS (a b : List (Int × Int × Int × Bool)) (h : a.length ≤ 4294967296) : g_leqLedgeS (a, b) = some (decide (a = b), ()) := by
  have hm : maxLen = 9223372036854775807 := by decide
  show f_leqLedgeS BIG _ = _
  rw [e_leqLedgeS]
  by_cases hl : a.length = b.length
  · rw [decide_eq_true (by omega), Bool.not_true, cond_false, eqLoop a b (by omega) hl false]
    · by_cases h : a = b <;> simp [h]
    · intro self i x y hx hy
      have hi := (List.getElem?_eq_some_iff.1 hx).1
      simp only [show ((i : Int) < (a.length : Int)) from by omega, decide_true, cond_true]
      rw [bnd_nat hi, hx, Option.bind_some, bnd_nat (by omega), hy, Option.bind_some]
      rw [wr1 (by omega)]
      rw [eq_Ledge _ _ _ _ _ _ _ _, Option.bind_some]
      by_cases h : x = y <;> simp [h]
    · intro self
      simp
  · rw [decide_eq_false (by omega), Bool.not_false, cond_true, decide_eq_false (fun h => hl (by rw [h]))]
def hd_LedgeS (k : Int) (z : Int × Int × Int × Bool) (k' : Int) : Prop := z = (k, k + 1, k + 1 + 1, decide (Int.tmod (k + 1 + 1 + 1) 3 = 0)) ∧ k' = k + 1 + 1 + 1 + 1 ∧ 0 ≤ k ∧ k ≤ 4611686018427387904
theorem mh_LedgeS (a : List (Int × Int × Int × Bool)) (k : Int) (h0 : 0 ≤ k) (hk : k + 67108864 ≤ 4611686018427387904) (hz : a.length ≤ 16777216) : ∃ t c, g_lmarkLedgeS (a, k) = some (c, t) ∧ g_lheldLedgeS (t, k) = some (c, ()) ∧ k ≤ c ∧ c ≤ k + 67108864 := by
  have hm : maxLen = 9223372036854775807 := by decide
  have L := mkLoop hd_LedgeS 4 (by omega) a k (by omega) (F := fun self1 x0 =>
    bif decide (x0.2.2 < (x0.1.length : Int)) then
     bnd x0.1.length x0.2.2 fun n2 =>
     Option.bind x0.1[n2]? fun y3 =>
     bnd (x0.1.set n2 (x0.2.1, y3.2)).length x0.2.2 fun n4 =>
     Option.bind (x0.1.set n2 (x0.2.1, y3.2))[n4]? fun y5 =>
     bnd ((x0.1.set n2 (x0.2.1, y3.2)).set n4 (y5.1, IntKind.wrap .i64 (x0.2.1 + (1 : Int)), y5.2.2)).length x0.2.2 fun n6 =>
     Option.bind ((x0.1.set n2 (x0.2.1, y3.2)).set n4 (y5.1, IntKind.wrap .i64 (x0.2.1 + (1 : Int)), y5.2.2))[n6]? fun y7 =>
     bif decide ((3 : Int) = 0) then
      none
     else bnd (((x0.1.set n2 (x0.2.1, y3.2)).set n4 (y5.1, IntKind.wrap .i64 (x0.2.1 + (1 : Int)), y5.2.2)).set n6 (y7.1, y7.2.1, IntKind.wrap .i64 ((IntKind.wrap .i64 (x0.2.1 + (1 : Int))) + (1 : Int)), y7.2.2.2)).length x0.2.2 fun n8 =>
     Option.bind (((x0.1.set n2 (x0.2.1, y3.2)).set n4 (y5.1, IntKind.wrap .i64 (x0.2.1 + (1 : Int)), y5.2.2)).set n6 (y7.1, y7.2.1, IntKind.wrap .i64 ((IntKind.wrap .i64 (x0.2.1 + (1 : Int))) + (1 : Int)), y7.2.2.2))[n8]? fun y9 =>
     self1 ((((x0.1.set n2 (x0.2.1, y3.2)).set n4 (y5.1, IntKind.wrap .i64 (x0.2.1 + (1 : Int)), y5.2.2)).set n6 (y7.1, y7.2.1, IntKind.wrap .i64 ((IntKind.wrap .i64 (x0.2.1 + (1 : Int))) + (1 : Int)), y7.2.2.2)).set n8 (y9.1, y9.2.1, y9.2.2.1, decide ((Int.tmod (IntKind.wrap .i64 ((IntKind.wrap .i64 ((IntKind.wrap .i64 (x0.2.1 + (1 : Int))) + (1 : Int))) + (1 : Int))) (3 : Int)) = (0 : Int))), IntKind.wrap .i64 ((IntKind.wrap .i64 ((IntKind.wrap .i64 ((IntKind.wrap .i64 (x0.2.1 + (1 : Int))) + (1 : Int))) + (1 : Int))) + (1 : Int)), IntKind.wrap .i64 (x0.2.2 + (1 : Int)))
    else some (x0.1, x0.2.1)) (by
    intro self out i k y hi hl hy _ hk0 hk1
    have hi' : i < out.length := by omega
    have w1 : IntKind.wrap .i64 (k + 1) = k + 1 := wr (by omega) (by omega)
    have w2 : IntKind.wrap .i64 (k + 1 + 1) = k + 1 + 1 := wr (by omega) (by omega)
    have w3 : IntKind.wrap .i64 (k + 1 + 1 + 1) = k + 1 + 1 + 1 := wr (by omega) (by omega)
    have w4 : IntKind.wrap .i64 (k + 1 + 1 + 1 + 1) = k + 1 + 1 + 1 + 1 := wr (by omega) (by omega)
    refine ⟨(k, k + 1, k + 1 + 1, decide (Int.tmod (k + 1 + 1 + 1) 3 = 0)), k + 1 + 1 + 1 + 1, ⟨rfl, rfl, by omega, by omega⟩, by omega, by omega, ?_⟩
    simp only [hl, show ((i : Int) < (a.length : Int)) from by omega, decide_true, cond_true, List.length_set, bnd_nat hi, hy, List.getElem?_set_self hi', Option.bind_some, List.set_set, w1, w2, w3, w4, show decide ((3 : Int) = 0) = false from rfl, cond_false, and_true]
    rw [wr1 (by omega)]) (by
    intro self out k hl
    simp [hl])
  obtain ⟨t, c, e1, e2, e3, e4, e5⟩ := L
  refine ⟨t, c, ?_, ?_, e4, by omega⟩
  · show f_lmarkLedgeS BIG _ = _
    rw [e_lmarkLedgeS, e1]
    rfl
  · show f_lheldLedgeS BIG _ = _
    rw [e_lheldLedgeS, hdLoop hd_LedgeS t k c (by omega) e2]
    · rfl
    · intro self i kk kk' z hz ⟨g1, g2, g3, g4⟩
      subst g2
      rw [g1] at hz
      have hi := (List.getElem?_eq_some_iff.1 hz).1
      have w1 : IntKind.wrap .i64 (kk + 1) = kk + 1 := wr (by omega) (by omega)
      have w2 : IntKind.wrap .i64 (kk + 1 + 1) = kk + 1 + 1 := wr (by omega) (by omega)
      have w3 : IntKind.wrap .i64 (kk + 1 + 1 + 1) = kk + 1 + 1 + 1 := wr (by omega) (by omega)
      have w4 : IntKind.wrap .i64 (kk + 1 + 1 + 1 + 1) = kk + 1 + 1 + 1 + 1 := wr (by omega) (by omega)
      simp only [show ((i : Int) < (t.length : Int)) from by omega, decide_true, cond_true, bnd_nat hi, hz, Option.bind_some, w1, w2, w3, w4, Bool.not_true, cond_false, show decide ((3 : Int) = 0) = false from rfl, cond_false, beq_self_eq_true]
      rw [wr1 (by omega)]
    · intro self k
      simp
theorem eq_SaidS (a b : List (Int × Int × Int × Int × Int × Int)) (h : a.length ≤ 4294967296) : g_leqSaidS (a, b) = some (decide (a = b), ()) := by
  have hm : maxLen = 9223372036854775807 := by decide
  show f_leqSaidS BIG _ = _
  rw [e_leqSaidS]
  by_cases hl : a.length = b.length
  · rw [decide_eq_true (by omega), Bool.not_true, cond_false, eqLoop a b (by omega) hl false]
    · by_cases h : a = b <;> simp [h]
    · intro self i x y hx hy
      have hi := (List.getElem?_eq_some_iff.1 hx).1
      simp only [show ((i : Int) < (a.length : Int)) from by omega, decide_true, cond_true]
      rw [bnd_nat hi, hx, Option.bind_some, bnd_nat (by omega), hy, Option.bind_some]
      rw [wr1 (by omega)]
      rw [eq_Said _ _ _ _ _ _ _ _ _ _ _ _, Option.bind_some]
      by_cases h : x = y <;> simp [h]
    · intro self
      simp
  · rw [decide_eq_false (by omega), Bool.not_false, cond_true, decide_eq_false (fun h => hl (by rw [h]))]
def hd_SaidS (k : Int) (z : Int × Int × Int × Int × Int × Int) (k' : Int) : Prop := z = (k, k + 1, k + 1 + 1, k + 1 + 1 + 1, k + 1 + 1 + 1 + 1, k + 1 + 1 + 1 + 1 + 1) ∧ k' = k + 1 + 1 + 1 + 1 + 1 + 1 ∧ 0 ≤ k ∧ k ≤ 4611686018427387904
theorem mh_SaidS (a : List (Int × Int × Int × Int × Int × Int)) (k : Int) (h0 : 0 ≤ k) (hk : k + 100663296 ≤ 4611686018427387904) (hz : a.length ≤ 16777216) : ∃ t c, g_lmarkSaidS (a, k) = some (c, t) ∧ g_lheldSaidS (t, k) = some (c, ()) ∧ k ≤ c ∧ c ≤ k + 100663296 := by
  have hm : maxLen = 9223372036854775807 := by decide
  have L := mkLoop hd_SaidS 6 (by omega) a k (by omega) (F := fun self1 x0 =>
    bif decide (x0.2.2 < (x0.1.length : Int)) then
     bnd x0.1.length x0.2.2 fun n2 =>
     Option.bind x0.1[n2]? fun y3 =>
     bnd (x0.1.set n2 (x0.2.1, y3.2)).length x0.2.2 fun n4 =>
     Option.bind (x0.1.set n2 (x0.2.1, y3.2))[n4]? fun y5 =>
     bnd ((x0.1.set n2 (x0.2.1, y3.2)).set n4 (y5.1, IntKind.wrap .i64 (x0.2.1 + (1 : Int)), y5.2.2)).length x0.2.2 fun n6 =>
     Option.bind ((x0.1.set n2 (x0.2.1, y3.2)).set n4 (y5.1, IntKind.wrap .i64 (x0.2.1 + (1 : Int)), y5.2.2))[n6]? fun y7 =>
     bnd (((x0.1.set n2 (x0.2.1, y3.2)).set n4 (y5.1, IntKind.wrap .i64 (x0.2.1 + (1 : Int)), y5.2.2)).set n6 (y7.1, y7.2.1, IntKind.wrap .i64 ((IntKind.wrap .i64 (x0.2.1 + (1 : Int))) + (1 : Int)), y7.2.2.2)).length x0.2.2 fun n8 =>
     Option.bind (((x0.1.set n2 (x0.2.1, y3.2)).set n4 (y5.1, IntKind.wrap .i64 (x0.2.1 + (1 : Int)), y5.2.2)).set n6 (y7.1, y7.2.1, IntKind.wrap .i64 ((IntKind.wrap .i64 (x0.2.1 + (1 : Int))) + (1 : Int)), y7.2.2.2))[n8]? fun y9 =>
     bnd ((((x0.1.set n2 (x0.2.1, y3.2)).set n4 (y5.1, IntKind.wrap .i64 (x0.2.1 + (1 : Int)), y5.2.2)).set n6 (y7.1, y7.2.1, IntKind.wrap .i64 ((IntKind.wrap .i64 (x0.2.1 + (1 : Int))) + (1 : Int)), y7.2.2.2)).set n8 (y9.1, y9.2.1, y9.2.2.1, IntKind.wrap .i64 ((IntKind.wrap .i64 ((IntKind.wrap .i64 (x0.2.1 + (1 : Int))) + (1 : Int))) + (1 : Int)), y9.2.2.2.2)).length x0.2.2 fun n10 =>
     Option.bind ((((x0.1.set n2 (x0.2.1, y3.2)).set n4 (y5.1, IntKind.wrap .i64 (x0.2.1 + (1 : Int)), y5.2.2)).set n6 (y7.1, y7.2.1, IntKind.wrap .i64 ((IntKind.wrap .i64 (x0.2.1 + (1 : Int))) + (1 : Int)), y7.2.2.2)).set n8 (y9.1, y9.2.1, y9.2.2.1, IntKind.wrap .i64 ((IntKind.wrap .i64 ((IntKind.wrap .i64 (x0.2.1 + (1 : Int))) + (1 : Int))) + (1 : Int)), y9.2.2.2.2))[n10]? fun y11 =>
     bnd (((((x0.1.set n2 (x0.2.1, y3.2)).set n4 (y5.1, IntKind.wrap .i64 (x0.2.1 + (1 : Int)), y5.2.2)).set n6 (y7.1, y7.2.1, IntKind.wrap .i64 ((IntKind.wrap .i64 (x0.2.1 + (1 : Int))) + (1 : Int)), y7.2.2.2)).set n8 (y9.1, y9.2.1, y9.2.2.1, IntKind.wrap .i64 ((IntKind.wrap .i64 ((IntKind.wrap .i64 (x0.2.1 + (1 : Int))) + (1 : Int))) + (1 : Int)), y9.2.2.2.2)).set n10 (y11.1, y11.2.1, y11.2.2.1, y11.2.2.2.1, IntKind.wrap .i64 ((IntKind.wrap .i64 ((IntKind.wrap .i64 ((IntKind.wrap .i64 (x0.2.1 + (1 : Int))) + (1 : Int))) + (1 : Int))) + (1 : Int)), y11.2.2.2.2.2)).length x0.2.2 fun n12 =>
     Option.bind (((((x0.1.set n2 (x0.2.1, y3.2)).set n4 (y5.1, IntKind.wrap .i64 (x0.2.1 + (1 : Int)), y5.2.2)).set n6 (y7.1, y7.2.1, IntKind.wrap .i64 ((IntKind.wrap .i64 (x0.2.1 + (1 : Int))) + (1 : Int)), y7.2.2.2)).set n8 (y9.1, y9.2.1, y9.2.2.1, IntKind.wrap .i64 ((IntKind.wrap .i64 ((IntKind.wrap .i64 (x0.2.1 + (1 : Int))) + (1 : Int))) + (1 : Int)), y9.2.2.2.2)).set n10 (y11.1, y11.2.1, y11.2.2.1, y11.2.2.2.1, IntKind.wrap .i64 ((IntKind.wrap .i64 ((IntKind.wrap .i64 ((IntKind.wrap .i64 (x0.2.1 + (1 : Int))) + (1 : Int))) + (1 : Int))) + (1 : Int)), y11.2.2.2.2.2))[n12]? fun y13 =>
     self1 ((((((x0.1.set n2 (x0.2.1, y3.2)).set n4 (y5.1, IntKind.wrap .i64 (x0.2.1 + (1 : Int)), y5.2.2)).set n6 (y7.1, y7.2.1, IntKind.wrap .i64 ((IntKind.wrap .i64 (x0.2.1 + (1 : Int))) + (1 : Int)), y7.2.2.2)).set n8 (y9.1, y9.2.1, y9.2.2.1, IntKind.wrap .i64 ((IntKind.wrap .i64 ((IntKind.wrap .i64 (x0.2.1 + (1 : Int))) + (1 : Int))) + (1 : Int)), y9.2.2.2.2)).set n10 (y11.1, y11.2.1, y11.2.2.1, y11.2.2.2.1, IntKind.wrap .i64 ((IntKind.wrap .i64 ((IntKind.wrap .i64 ((IntKind.wrap .i64 (x0.2.1 + (1 : Int))) + (1 : Int))) + (1 : Int))) + (1 : Int)), y11.2.2.2.2.2)).set n12 (y13.1, y13.2.1, y13.2.2.1, y13.2.2.2.1, y13.2.2.2.2.1, IntKind.wrap .i64 ((IntKind.wrap .i64 ((IntKind.wrap .i64 ((IntKind.wrap .i64 ((IntKind.wrap .i64 (x0.2.1 + (1 : Int))) + (1 : Int))) + (1 : Int))) + (1 : Int))) + (1 : Int))), IntKind.wrap .i64 ((IntKind.wrap .i64 ((IntKind.wrap .i64 ((IntKind.wrap .i64 ((IntKind.wrap .i64 ((IntKind.wrap .i64 (x0.2.1 + (1 : Int))) + (1 : Int))) + (1 : Int))) + (1 : Int))) + (1 : Int))) + (1 : Int)), IntKind.wrap .i64 (x0.2.2 + (1 : Int)))
    else some (x0.1, x0.2.1)) (by
    intro self out i k y hi hl hy _ hk0 hk1
    have hi' : i < out.length := by omega
    have w1 : IntKind.wrap .i64 (k + 1) = k + 1 := wr (by omega) (by omega)
    have w2 : IntKind.wrap .i64 (k + 1 + 1) = k + 1 + 1 := wr (by omega) (by omega)
    have w3 : IntKind.wrap .i64 (k + 1 + 1 + 1) = k + 1 + 1 + 1 := wr (by omega) (by omega)
    have w4 : IntKind.wrap .i64 (k + 1 + 1 + 1 + 1) = k + 1 + 1 + 1 + 1 := wr (by omega) (by omega)
    have w5 : IntKind.wrap .i64 (k + 1 + 1 + 1 + 1 + 1) = k + 1 + 1 + 1 + 1 + 1 := wr (by omega) (by omega)
    have w6 : IntKind.wrap .i64 (k + 1 + 1 + 1 + 1 + 1 + 1) = k + 1 + 1 + 1 + 1 + 1 + 1 := wr (by omega) (by omega)
    refine ⟨(k, k + 1, k + 1 + 1, k + 1 + 1 + 1, k + 1 + 1 + 1 + 1, k + 1 + 1 + 1 + 1 + 1), k + 1 + 1 + 1 + 1 + 1 + 1, ⟨rfl, rfl, by omega, by omega⟩, by omega, by omega, ?_⟩
    simp only [hl, show ((i : Int) < (a.length : Int)) from by omega, decide_true, cond_true, List.length_set, bnd_nat hi, hy, List.getElem?_set_self hi', Option.bind_some, List.set_set, w1, w2, w3, w4, w5, w6, and_true]
    rw [wr1 (by omega)]) (by
    intro self out k hl
    simp [hl])
  obtain ⟨t, c, e1, e2, e3, e4, e5⟩ := L
  refine ⟨t, c, ?_, ?_, e4, by omega⟩
  · show f_lmarkSaidS BIG _ = _
    rw [e_lmarkSaidS, e1]
    rfl
  · show f_lheldSaidS BIG _ = _
    rw [e_lheldSaidS, hdLoop hd_SaidS t k c (by omega) e2]
    · rfl
    · intro self i kk kk' z hz ⟨g1, g2, g3, g4⟩
      subst g2
      rw [g1] at hz
      have hi := (List.getElem?_eq_some_iff.1 hz).1
      have w1 : IntKind.wrap .i64 (kk + 1) = kk + 1 := wr (by omega) (by omega)
      have w2 : IntKind.wrap .i64 (kk + 1 + 1) = kk + 1 + 1 := wr (by omega) (by omega)
      have w3 : IntKind.wrap .i64 (kk + 1 + 1 + 1) = kk + 1 + 1 + 1 := wr (by omega) (by omega)
      have w4 : IntKind.wrap .i64 (kk + 1 + 1 + 1 + 1) = kk + 1 + 1 + 1 + 1 := wr (by omega) (by omega)
      have w5 : IntKind.wrap .i64 (kk + 1 + 1 + 1 + 1 + 1) = kk + 1 + 1 + 1 + 1 + 1 := wr (by omega) (by omega)
      have w6 : IntKind.wrap .i64 (kk + 1 + 1 + 1 + 1 + 1 + 1) = kk + 1 + 1 + 1 + 1 + 1 + 1 := wr (by omega) (by omega)
      simp only [show ((i : Int) < (t.length : Int)) from by omega, decide_true, cond_true, bnd_nat hi, hz, Option.bind_some, w1, w2, w3, w4, w5, w6, Bool.not_true, cond_false, beq_self_eq_true]
      rw [wr1 (by omega)]
    · intro self k
      simp
def z_IntSS (a : List (List (Int))) : Nat := a.length + (a.map fun y => y.length).sum
theorem z_IntSS_mem {a : List (List (Int))} {y : List (Int)} (h : y ∈ a) : y.length ≤ z_IntSS a := by
  have : ∀ a : List (List (Int)), y ∈ a → y.length ≤ (a.map fun y => y.length).sum := by
    intro a
    induction a with
    | nil => intro h; cases h
    | cons x a ih =>
      intro h
      rw [List.map_cons, List.sum_cons]
      rcases List.mem_cons.1 h with rfl | h
      · omega
      · have := ih h; omega
  have := this a h
  unfold z_IntSS; omega
theorem eq_IntSS (a b : List (List (Int))) (h : z_IntSS a ≤ 4294967296) : g_leqIntSS (a, b) = some (decide (a = b), ()) := by
  have hm : maxLen = 9223372036854775807 := by decide
  have h1 : a.length ≤ 4294967296 := by unfold z_IntSS at h; omega
  show f_leqIntSS BIG _ = _
  rw [e_leqIntSS]
  by_cases hl : a.length = b.length
  · rw [decide_eq_true (by omega), Bool.not_true, cond_false, eqLoop a b (by omega) hl false]
    · by_cases h : a = b <;> simp [h]
    · intro self i x y hx hy
      have hi := (List.getElem?_eq_some_iff.1 hx).1
      have hz := z_IntSS_mem (List.mem_of_getElem? hx)
      simp only [show ((i : Int) < (a.length : Int)) from by omega, decide_true, cond_true]
      rw [bnd_nat hi, hx, Option.bind_some, bnd_nat (by omega), hy, Option.bind_some, eq_IntS x y (by omega), Option.bind_some, wr1 (by omega)]
      by_cases h : x = y <;> simp [h]
    · intro self
      simp
  · rw [decide_eq_false (by omega), Bool.not_false, cond_true, decide_eq_false (fun h => hl (by rw [h]))]
def hd_IntSS (k : Int) (z : List (Int)) (k' : Int) : Prop := g_lheldIntS (z, k) = some (k', ()) ∧ 0 ≤ k ∧ k ≤ k' ∧ k' ≤ 4611686018427387904
theorem mh_IntSS (a : List (List (Int))) (k : Int) (h0 : 0 ≤ k) (hk : k + 281474976710656 ≤ 4611686018427387904) (hz : z_IntSS a ≤ 16777216) : ∃ t c, g_lmarkIntSS (a, k) = some (c, t) ∧ g_lheldIntSS (t, k) = some (c, ()) ∧ k ≤ c ∧ c ≤ k + 281474976710656 := by
  have hm : maxLen = 9223372036854775807 := by decide
  have hl0 : a.length ≤ 16777216 := by unfold z_IntSS at hz; omega
  have L := mkLoop hd_IntSS 16777216 (by omega) a k (by omega) (F := fun self1 x0 =>
    bif decide (x0.2.2 < (x0.1.length : Int)) then
     bnd x0.1.length x0.2.2 fun n2 =>
     Option.bind x0.1[n2]? fun y3 =>
     Option.bind (g_lmarkIntS (y3, x0.2.1)) fun r4 =>
     Option.bind x0.1[n2]? fun y5 =>
     self1 (x0.1.set n2 r4.2, r4.1, IntKind.wrap .i64 (x0.2.2 + (1 : Int)))
    else some (x0.1, x0.2.1)) (by
    intro self out i k y hi hl hy hya hk0 hk1
    have hi' : i < out.length := by omega
    have hz' := z_IntSS_mem (List.mem_of_getElem? hya)
    obtain ⟨t, c, m1, m2, m3, m4⟩ := mh_IntS y k (by omega) (by omega) (by omega)
    refine ⟨t, c, ⟨m2, by omega, by omega, by omega⟩, by omega, by omega, ?_⟩
    simp only [hl, show ((i : Int) < (a.length : Int)) from by omega, decide_true, cond_true, List.length_set, bnd_nat hi, hy, Option.bind_some, m1]
    rw [wr1 (by omega)]) (by
    intro self out k hl
    simp [hl])
  obtain ⟨t, c, e1, e2, e3, e4, e5⟩ := L
  refine ⟨t, c, ?_, ?_, e4, by omega⟩
  · show f_lmarkIntSS BIG _ = _
    rw [e_lmarkIntSS, e1]
    rfl
  · show f_lheldIntSS BIG _ = _
    rw [e_lheldIntSS, hdLoop hd_IntSS t k c (by omega) e2]
    · rfl
    · intro self i kk kk' z hz ⟨g1, g2, g3, g4⟩
      have hi := (List.getElem?_eq_some_iff.1 hz).1
      simp only [show ((i : Int) < (t.length : Int)) from by omega, decide_true, cond_true, bnd_nat hi, hz, Option.bind_some, g1]
      rw [decide_eq_false (by omega), cond_false, wr1 (by omega)]
    · intro self k
      simp
theorem eq_Web (x0 : Int) (x1 : List (Int × Int × Int × Bool)) (h : (x1.length) ≤ 4294967296) : g_leqWeb ((x0, x1), (x0, x1)) = some (true, ()) := by
  show f_leqWeb BIG _ = _
  rw [e_leqWeb]
  dsimp only
  rw [decide_eq_true rfl, Bool.not_true, cond_false]
  rw [eq_LedgeS x1 x1 (by omega), Option.bind_some]
  rw [decide_eq_true rfl, Bool.not_true, cond_false]
theorem eq_Answer (x0 : Int) (x1 : Bool) (x2 : List (Int × Int)) (x3 : List (Int)) (h : (x2.length + x3.length) ≤ 4294967296) : g_leqAnswer ((x0, x1, x2, x3), (x0, x1, x2, x3)) = some (true, ()) := by
  show f_leqAnswer BIG _ = _
  rw [e_leqAnswer]
  dsimp only
  rw [decide_eq_true rfl, Bool.not_true, cond_false]
  rw [beq_self_eq_true, Bool.not_true, cond_false]
  rw [eq_EdgeS x2 x2 (by omega), Option.bind_some]
  rw [decide_eq_true rfl, Bool.not_true, cond_false]
  rw [eq_IntS x3 x3 (by omega), Option.bind_some]
  rw [decide_eq_true rfl, Bool.not_true, cond_false]
theorem eq_Order (x0 : Int) (x1 : Int) (x2 : List (Int × Int)) (x3 : Int) (h : (x2.length) ≤ 4294967296) : g_leqOrder ((x0, x1, x2, x3), (x0, x1, x2, x3)) = some (true, ()) := by
  show f_leqOrder BIG _ = _
  rw [e_leqOrder]
  dsimp only
  rw [decide_eq_true rfl, Bool.not_true, cond_false]
  rw [decide_eq_true rfl, Bool.not_true, cond_false]
  rw [eq_EdgeS x2 x2 (by omega), Option.bind_some]
  rw [decide_eq_true rfl, Bool.not_true, cond_false]
  rw [decide_eq_true rfl, Bool.not_true, cond_false]
theorem mh_Order (x0 : Int) (x1 : Int) (x2 : List (Int × Int)) (x3 : Int) (k : Int) (h0 : 0 ≤ k) (hk : k + 33554432 ≤ 4611686018427387904) (hz : (x2.length) ≤ 16777216) : ∃ t2 c, g_lmarkOrder ((x0, x1, x2, x3), k) = some (c, (x0, x1, t2, x3)) ∧ g_lheldOrder ((x0, x1, t2, x3), k) = some (c, ()) ∧ k ≤ c ∧ c ≤ k + 33554432 := by
  obtain ⟨t2, c0, m0, d0, l0, u0⟩ := mh_EdgeS x2 k (by omega) (by omega) (by omega)
  refine ⟨t2, c0, ?_, ?_, by omega, by omega⟩
  · show f_lmarkOrder BIG _ = _
    rw [e_lmarkOrder]
    dsimp only
    rw [m0, Option.bind_some]
  · show f_lheldOrder BIG _ = _
    rw [e_lheldOrder]
    dsimp only
    rw [d0, Option.bind_some]
    dsimp only
    rw [decide_eq_false (by omega), cond_false]
theorem eq_Shard (x0 : Int) (x1 : Int) (x2 : List (Int × Int × Int × Bool)) (x3 : Int) (x4 : Bool) (x5 : List (Int × Int)) (x6 : List (Int)) (h : (x2.length + x5.length + x6.length) ≤ 4294967296) : g_leqShard ((x0, x1, x2, x3, x4, x5, x6), (x0, x1, x2, x3, x4, x5, x6)) = some (true, ()) := by
  show f_leqShard BIG _ = _
  rw [e_leqShard]
  dsimp only
  rw [decide_eq_true rfl, Bool.not_true, cond_false]
  rw [eq_Web x1 x2 (by omega), Option.bind_some]
  rw [Bool.not_true, cond_false]
  rw [eq_Answer x3 x4 x5 x6 (by omega), Option.bind_some]
  rw [Bool.not_true, cond_false]
theorem eq_Task (x0 : Int) (x1 : Int) (x2 : Int) (x3 : Int) (x4 : Int) (x5 : Int) (x6 : Int) (x7 : List (Int × Int)) (x8 : Int) (h : (x7.length) ≤ 4294967296) : g_leqTask ((x0, x1, x2, x3, x4, x5, x6, x7, x8), (x0, x1, x2, x3, x4, x5, x6, x7, x8)) = some (true, ()) := by
  show f_leqTask BIG _ = _
  rw [e_leqTask]
  dsimp only
  rw [eq_Ask, Option.bind_some]
  rw [decide_eq_true rfl, Bool.not_true, cond_false]
  rw [decide_eq_true rfl, Bool.not_true, cond_false]
  rw [eq_Order x5 x6 x7 x8 (by omega), Option.bind_some]
  rw [Bool.not_true, cond_false]
theorem mh_Task (x0 : Int) (x1 : Int) (x2 : Int) (x3 : Int) (x4 : Int) (x5 : Int) (x6 : Int) (x7 : List (Int × Int)) (x8 : Int) (k : Int) (h0 : 0 ≤ k) (hk : k + 33554432 ≤ 4611686018427387904) (hz : (x7.length) ≤ 16777216) : ∃ t7 c, g_lmarkTask ((x0, x1, x2, x3, x4, x5, x6, x7, x8), k) = some (c, (x0, x1, x2, x3, x4, x5, x6, t7, x8)) ∧ g_lheldTask ((x0, x1, x2, x3, x4, x5, x6, t7, x8), k) = some (c, ()) ∧ k ≤ c ∧ c ≤ k + 33554432 := by
  obtain ⟨t7, c0, m0, d0, l0, u0⟩ := mh_Order x5 x6 x7 x8 k (by omega) (by omega) (by omega)
  refine ⟨t7, c0, ?_, ?_, by omega, by omega⟩
  · show f_lmarkTask BIG _ = _
    rw [e_lmarkTask]
    dsimp only
    rw [m0, Option.bind_some]
  · show f_lheldTask BIG _ = _
    rw [e_lheldTask]
    dsimp only
    rw [d0, Option.bind_some]
    dsimp only
    rw [decide_eq_false (by omega), cond_false]
theorem eq_Head (x0 : Int) (x1 : List (Int)) (x2 : List (Int × Int)) (x3 : List (List (Int))) (x4 : List (Int)) (x5 : Int) (x6 : Int) (x7 : Int) (x8 : Int) (x9 : Int) (x10 : Int) (x11 : Int) (x12 : List (Int × Int)) (x13 : Int) (x14 : List (Int × Int × Int × Int × Int × Int)) (h : (x1.length + x2.length + z_IntSS x3 + x4.length + x12.length + x14.length) ≤ 4294967296) : g_leqHead ((x0, x1, x2, x3, x4, x5, x6, x7, x8, x9, x10, x11, x12, x13, x14), (x0, x1, x2, x3, x4, x5, x6, x7, x8, x9, x10, x11, x12, x13, x14)) = some (true, ()) := by
  show f_leqHead BIG _ = _
  rw [e_leqHead]
  dsimp only
  rw [decide_eq_true rfl, Bool.not_true, cond_false]
  rw [eq_IntS x1 x1 (by omega), Option.bind_some]
  rw [decide_eq_true rfl, Bool.not_true, cond_false]
  rw [eq_EdgeS x2 x2 (by omega), Option.bind_some]
  rw [decide_eq_true rfl, Bool.not_true, cond_false]
  rw [eq_IntSS x3 x3 (by omega), Option.bind_some]
  rw [decide_eq_true rfl, Bool.not_true, cond_false]
  rw [eq_IntS x4 x4 (by omega), Option.bind_some]
  rw [decide_eq_true rfl, Bool.not_true, cond_false]
  rw [eq_Task x5 x6 x7 x8 x9 x10 x11 x12 x13 (by omega), Option.bind_some]
  rw [Bool.not_true, cond_false]
  rw [eq_SaidS x14 x14 (by omega), Option.bind_some]
  rw [decide_eq_true rfl, Bool.not_true, cond_false]
theorem mh_Head (x0 : Int) (x1 : List (Int)) (x2 : List (Int × Int)) (x3 : List (List (Int))) (x4 : List (Int)) (x5 : Int) (x6 : Int) (x7 : Int) (x8 : Int) (x9 : Int) (x10 : Int) (x11 : Int) (x12 : List (Int × Int)) (x13 : Int) (x14 : List (Int × Int × Int × Int × Int × Int)) (k : Int) (h0 : 0 ≤ k) (hk : k + 281475178037248 ≤ 4611686018427387904) (hz : (x1.length + x2.length + z_IntSS x3 + x4.length + x12.length + x14.length) ≤ 16777216) : ∃ t1 t2 t3 t4 t12 t14 c, g_lmarkHead ((x0, x1, x2, x3, x4, x5, x6, x7, x8, x9, x10, x11, x12, x13, x14), k) = some (c, (x0, t1, t2, t3, t4, x5, x6, x7, x8, x9, x10, x11, t12, x13, t14)) ∧ g_lheldHead ((x0, t1, t2, t3, t4, x5, x6, x7, x8, x9, x10, x11, t12, x13, t14), k) = some (c, ()) ∧ k ≤ c ∧ c ≤ k + 281475178037248 := by
  obtain ⟨t1, c0, m0, d0, l0, u0⟩ := mh_IntS x1 k (by omega) (by omega) (by omega)
  obtain ⟨t2, c1, m1, d1, l1, u1⟩ := mh_EdgeS x2 c0 (by omega) (by omega) (by omega)
  obtain ⟨t3, c2, m2, d2, l2, u2⟩ := mh_IntSS x3 c1 (by omega) (by omega) (by omega)
  obtain ⟨t4, c3, m3, d3, l3, u3⟩ := mh_IntS x4 c2 (by omega) (by omega) (by omega)
  obtain ⟨t12, c4, m4, d4, l4, u4⟩ := mh_Task x5 x6 x7 x8 x9 x10 x11 x12 x13 c3 (by omega) (by omega) (by omega)
  obtain ⟨t14, c5, m5, d5, l5, u5⟩ := mh_SaidS x14 c4 (by omega) (by omega) (by omega)
  refine ⟨t1, t2, t3, t4, t12, t14, c5, ?_, ?_, by omega, by omega⟩
  · show f_lmarkHead BIG _ = _
    rw [e_lmarkHead]
    dsimp only
    rw [m0, Option.bind_some, m1, Option.bind_some, m2, Option.bind_some, m3, Option.bind_some, m4, Option.bind_some, m5, Option.bind_some]
  · show f_lheldHead BIG _ = _
    rw [e_lheldHead]
    dsimp only
    rw [d0, Option.bind_some]
    dsimp only
    rw [decide_eq_false (by omega), cond_false]
    rw [d1, Option.bind_some]
    dsimp only
    rw [decide_eq_false (by omega), cond_false]
    rw [d2, Option.bind_some]
    dsimp only
    rw [decide_eq_false (by omega), cond_false]
    rw [d3, Option.bind_some]
    dsimp only
    rw [decide_eq_false (by omega), cond_false]
    rw [d4, Option.bind_some]
    dsimp only
    rw [decide_eq_false (by omega), cond_false]
    rw [d5, Option.bind_some]
    dsimp only
    rw [decide_eq_false (by omega), cond_false]
theorem eq_Rec (x0 : Int) (x1 : Int) (x2 : Int) (x3 : Int) (x4 : Int) (x5 : Int) (x6 : Int) (x7 : Bool) (x8 : List (Int × Int)) (x9 : List (Int)) (x10 : Int) (x11 : Int) (x12 : List (Int × Int)) (x13 : Int) (h : (x8.length + x9.length + x12.length) ≤ 4294967296) : g_leqRec ((x0, x1, x2, x3, x4, x5, x6, x7, x8, x9, x10, x11, x12, x13), (x0, x1, x2, x3, x4, x5, x6, x7, x8, x9, x10, x11, x12, x13)) = some (true, ()) := by
  show f_leqRec BIG _ = _
  rw [e_leqRec]
  dsimp only
  rw [decide_eq_true rfl, Bool.not_true, cond_false]
  rw [eq_Ask, Option.bind_some]
  rw [decide_eq_true rfl, Bool.not_true, cond_false]
  rw [decide_eq_true rfl, Bool.not_true, cond_false]
  rw [eq_Answer x6 x7 x8 x9 (by omega), Option.bind_some]
  rw [Bool.not_true, cond_false]
  rw [eq_Order x10 x11 x12 x13 (by omega), Option.bind_some]
  rw [Bool.not_true, cond_false]
def z_RecS (a : List (Int × Int × Int × Int × Int × Int × Int × Bool × List (Int × Int) × List (Int) × Int × Int × List (Int × Int) × Int)) : Nat := a.length + (a.map fun y => (y.2.2.2.2.2.2.2.2.1.length + y.2.2.2.2.2.2.2.2.2.1.length + y.2.2.2.2.2.2.2.2.2.2.2.2.1.length)).sum
theorem z_RecS_mem {a : List (Int × Int × Int × Int × Int × Int × Int × Bool × List (Int × Int) × List (Int) × Int × Int × List (Int × Int) × Int)} {y : Int × Int × Int × Int × Int × Int × Int × Bool × List (Int × Int) × List (Int) × Int × Int × List (Int × Int) × Int} (h : y ∈ a) : (y.2.2.2.2.2.2.2.2.1.length + y.2.2.2.2.2.2.2.2.2.1.length + y.2.2.2.2.2.2.2.2.2.2.2.2.1.length) ≤ z_RecS a := by
  have : ∀ a : List (Int × Int × Int × Int × Int × Int × Int × Bool × List (Int × Int) × List (Int) × Int × Int × List (Int × Int) × Int), y ∈ a → (y.2.2.2.2.2.2.2.2.1.length + y.2.2.2.2.2.2.2.2.2.1.length + y.2.2.2.2.2.2.2.2.2.2.2.2.1.length) ≤ (a.map fun y => (y.2.2.2.2.2.2.2.2.1.length + y.2.2.2.2.2.2.2.2.2.1.length + y.2.2.2.2.2.2.2.2.2.2.2.2.1.length)).sum := by
    intro a
    induction a with
    | nil => intro h; cases h
    | cons x a ih =>
      intro h
      rw [List.map_cons, List.sum_cons]
      rcases List.mem_cons.1 h with rfl | h
      · omega
      · have := ih h; omega
  have := this a h
  unfold z_RecS; omega
theorem eq_RecS (a : List (Int × Int × Int × Int × Int × Int × Int × Bool × List (Int × Int) × List (Int) × Int × Int × List (Int × Int) × Int)) (h : z_RecS a ≤ 4294967296) : g_leqRecS (a, a) = some (true, ()) := by
  have hm : maxLen = 9223372036854775807 := by decide
  have h1 : a.length ≤ 4294967296 := by unfold z_RecS at h; omega
  show f_leqRecS BIG _ = _
  rw [e_leqRecS, decide_eq_true rfl, Bool.not_true, cond_false, allLoop a (by omega) (fun _ => true) false]
  · rw [if_pos (fun _ _ => rfl)]; rfl
  · intro self i y hy
    have hi := (List.getElem?_eq_some_iff.1 hy).1
    have hz := z_RecS_mem (List.mem_of_getElem? hy)
    have e : g_leqRec (y, y) = some (true, ()) := eq_Rec y.1 y.2.1 y.2.2.1 y.2.2.2.1 y.2.2.2.2.1 y.2.2.2.2.2.1 y.2.2.2.2.2.2.1 y.2.2.2.2.2.2.2.1 y.2.2.2.2.2.2.2.2.1 y.2.2.2.2.2.2.2.2.2.1 y.2.2.2.2.2.2.2.2.2.2.1 y.2.2.2.2.2.2.2.2.2.2.2.1 y.2.2.2.2.2.2.2.2.2.2.2.2.1 y.2.2.2.2.2.2.2.2.2.2.2.2.2 (by omega)
    simp only [show ((i : Int) < (a.length : Int)) from by omega, decide_true, cond_true]
    rw [bnd_nat hi, hy, Option.bind_some, bnd_nat hi, hy, Option.bind_some, e, Option.bind_some, wr1 (by omega)]
    rfl
  · intro self; simp
def z_ShardS (a : List (Int × Int × List (Int × Int × Int × Bool) × Int × Bool × List (Int × Int) × List (Int))) : Nat := a.length + (a.map fun y => (y.2.2.1.length + y.2.2.2.2.2.1.length + y.2.2.2.2.2.2.length)).sum
theorem z_ShardS_mem {a : List (Int × Int × List (Int × Int × Int × Bool) × Int × Bool × List (Int × Int) × List (Int))} {y : Int × Int × List (Int × Int × Int × Bool) × Int × Bool × List (Int × Int) × List (Int)} (h : y ∈ a) : (y.2.2.1.length + y.2.2.2.2.2.1.length + y.2.2.2.2.2.2.length) ≤ z_ShardS a := by
  have : ∀ a : List (Int × Int × List (Int × Int × Int × Bool) × Int × Bool × List (Int × Int) × List (Int)), y ∈ a → (y.2.2.1.length + y.2.2.2.2.2.1.length + y.2.2.2.2.2.2.length) ≤ (a.map fun y => (y.2.2.1.length + y.2.2.2.2.2.1.length + y.2.2.2.2.2.2.length)).sum := by
    intro a
    induction a with
    | nil => intro h; cases h
    | cons x a ih =>
      intro h
      rw [List.map_cons, List.sum_cons]
      rcases List.mem_cons.1 h with rfl | h
      · omega
      · have := ih h; omega
  have := this a h
  unfold z_ShardS; omega
theorem eq_ShardS (a : List (Int × Int × List (Int × Int × Int × Bool) × Int × Bool × List (Int × Int) × List (Int))) (h : z_ShardS a ≤ 4294967296) : g_leqShardS (a, a) = some (true, ()) := by
  have hm : maxLen = 9223372036854775807 := by decide
  have h1 : a.length ≤ 4294967296 := by unfold z_ShardS at h; omega
  show f_leqShardS BIG _ = _
  rw [e_leqShardS, decide_eq_true rfl, Bool.not_true, cond_false, allLoop a (by omega) (fun _ => true) false]
  · rw [if_pos (fun _ _ => rfl)]; rfl
  · intro self i y hy
    have hi := (List.getElem?_eq_some_iff.1 hy).1
    have hz := z_ShardS_mem (List.mem_of_getElem? hy)
    have e : g_leqShard (y, y) = some (true, ()) := eq_Shard y.1 y.2.1 y.2.2.1 y.2.2.2.1 y.2.2.2.2.1 y.2.2.2.2.2.1 y.2.2.2.2.2.2 (by omega)
    simp only [show ((i : Int) < (a.length : Int)) from by omega, decide_true, cond_true]
    rw [bnd_nat hi, hy, Option.bind_some, bnd_nat hi, hy, Option.bind_some, e, Option.bind_some, wr1 (by omega)]
    rfl
  · intro self; simp
def hd_ShardS (k : Int) (z : Int × Int × List (Int × Int × Int × Bool) × Int × Bool × List (Int × Int) × List (Int)) (k' : Int) : Prop := ∃ c2 c5 c6 : Int, (z.1 = k ∧ z.2.1 = k + 1 ∧ z.2.2.2.1 = c2 ∧ z.2.2.2.2.1 = decide (Int.tmod (c2 + 1) 3 = 0)) ∧ (g_lheldLedgeS (z.2.2.1, k + 1 + 1) = some (c2, ()) ∧ g_lheldEdgeS (z.2.2.2.2.2.1, c2 + 1 + 1) = some (c5, ()) ∧ g_lheldIntS (z.2.2.2.2.2.2, c5) = some (c6, ())) ∧ (k + 1 + 1 ≤ c2 ∧ c2 + 1 + 1 ≤ c5 ∧ c5 ≤ c6 ∧ c6 ≤ 4611686018427387000) ∧ k' = c6 ∧ 0 ≤ k
theorem hw_ShardS (kk c2 c5 c6 : Int) (h0 : 0 ≤ kk) (hb : kk + 1 + 1 ≤ c2 ∧ c2 + 1 + 1 ≤ c5 ∧ c5 ≤ c6 ∧ c6 ≤ 4611686018427387000) : IntKind.wrap .i64 (kk + 1) = kk + 1 ∧ IntKind.wrap .i64 (kk + 1 + 1) = kk + 1 + 1 ∧ IntKind.wrap .i64 (c2 + 1) = c2 + 1 ∧ IntKind.wrap .i64 (c2 + 1 + 1) = c2 + 1 + 1 ∧ decide (c2 < 0) = false ∧ decide (c5 < 0) = false ∧ decide (c6 < 0) = false := by
  obtain ⟨b0, b1, b2, b3⟩ := hb
  exact ⟨wr (by omega) (by omega), wr (by omega) (by omega), wr (by omega) (by omega), wr (by omega) (by omega), decide_eq_false (by omega), decide_eq_false (by omega), decide_eq_false (by omega)⟩
theorem hx_ShardS (t : List (Int × Int × List (Int × Int × Int × Bool) × Int × Bool × List (Int × Int) × List (Int))) (k c : Int) (hl : t.length ≤ 4294967296) (h : HdL hd_ShardS k t c) : g_lheldShardS (t, k) = some (c, ()) := by
  have hm : maxLen = 9223372036854775807 := by decide
  show f_lheldShardS BIG _ = _
  rw [e_lheldShardS, hdLoop hd_ShardS t k c (by omega) h]
  · rfl
  · clear h
    intro self i kk kk' z hz hh
    have hi := (List.getElem?_eq_some_iff.1 hz).1
    have hlt : (i : Int) < (t.length : Int) := by omega
    have h1 : IntKind.wrap .i64 ((i : Int) + 1) = ((i + 1 : Nat) : Int) := wr1 (by omega)
    obtain ⟨c2, c5, c6, ⟨s0, s1, s2, s3⟩, ⟨d2, d5, d6⟩, hb, gk, g0⟩ := hh
    obtain ⟨w0, w1, w2, w3, n2, n5, n6⟩ := hw_ShardS kk c2 c5 c6 g0 hb
    simp only [hlt, decide_true, cond_true, bnd_nat hi, hz, Option.bind_some, s0, s1, s2, s3, w0, w1, w2, w3, d2, d5, d6, Bool.not_true, cond_false, n2, n5, n6, show decide ((3 : Int) = 0) = false from rfl, cond_false, beq_self_eq_true]
    rw [gk, h1]
  · intro self k
    simp
theorem mh_ShardS (a : List (Int × Int × List (Int × Int × Int × Bool) × Int × Bool × List (Int × Int) × List (Int))) (k : Int) (h0 : 0 ≤ k) (hk : k + 1970324904083456 ≤ 4611686018427380000) (hz : z_ShardS a ≤ 16777216) : ∃ t c, g_lmarkShardS (a, k) = some (c, t) ∧ g_lheldShardS (t, k) = some (c, ()) ∧ k ≤ c ∧ c ≤ k + 1970324904083456 := by
  have hm : maxLen = 9223372036854775807 := by decide
  have hl0 : a.length ≤ 16777216 := by unfold z_ShardS at hz; omega
  have L := mkLoop hd_ShardS 117440516 (by omega) a k (by omega) (F := fun self1 x0 =>
    bif decide (x0.2.2 < (x0.1.length : Int)) then
     bnd x0.1.length x0.2.2 fun n2 =>
     Option.bind x0.1[n2]? fun y3 =>
     bnd (x0.1.set n2 (x0.2.1, y3.2)).length x0.2.2 fun n4 =>
     Option.bind (x0.1.set n2 (x0.2.1, y3.2))[n4]? fun y5 =>
     bnd ((x0.1.set n2 (x0.2.1, y3.2)).set n4 (y5.1, IntKind.wrap .i64 (x0.2.1 + (1 : Int)), y5.2.2)).length x0.2.2 fun n6 =>
     Option.bind ((x0.1.set n2 (x0.2.1, y3.2)).set n4 (y5.1, IntKind.wrap .i64 (x0.2.1 + (1 : Int)), y5.2.2))[n6]? fun y7 =>
     Option.bind (g_lmarkLedgeS (y7.2.2.1, IntKind.wrap .i64 ((IntKind.wrap .i64 (x0.2.1 + (1 : Int))) + (1 : Int)))) fun r8 =>
     Option.bind ((x0.1.set n2 (x0.2.1, y3.2)).set n4 (y5.1, IntKind.wrap .i64 (x0.2.1 + (1 : Int)), y5.2.2))[n6]? fun y9 =>
     bnd (((x0.1.set n2 (x0.2.1, y3.2)).set n4 (y5.1, IntKind.wrap .i64 (x0.2.1 + (1 : Int)), y5.2.2)).set n6 (y9.1, y9.2.1, r8.2, y9.2.2.2)).length x0.2.2 fun n10 =>
     Option.bind (((x0.1.set n2 (x0.2.1, y3.2)).set n4 (y5.1, IntKind.wrap .i64 (x0.2.1 + (1 : Int)), y5.2.2)).set n6 (y9.1, y9.2.1, r8.2, y9.2.2.2))[n10]? fun y11 =>
     bif decide ((3 : Int) = 0) then
      none
     else bnd ((((x0.1.set n2 (x0.2.1, y3.2)).set n4 (y5.1, IntKind.wrap .i64 (x0.2.1 + (1 : Int)), y5.2.2)).set n6 (y9.1, y9.2.1, r8.2, y9.2.2.2)).set n10 (y11.1, y11.2.1, y11.2.2.1, r8.1, y11.2.2.2.2)).length x0.2.2 fun n12 =>
     Option.bind ((((x0.1.set n2 (x0.2.1, y3.2)).set n4 (y5.1, IntKind.wrap .i64 (x0.2.1 + (1 : Int)), y5.2.2)).set n6 (y9.1, y9.2.1, r8.2, y9.2.2.2)).set n10 (y11.1, y11.2.1, y11.2.2.1, r8.1, y11.2.2.2.2))[n12]? fun y13 =>
     bnd (((((x0.1.set n2 (x0.2.1, y3.2)).set n4 (y5.1, IntKind.wrap .i64 (x0.2.1 + (1 : Int)), y5.2.2)).set n6 (y9.1, y9.2.1, r8.2, y9.2.2.2)).set n10 (y11.1, y11.2.1, y11.2.2.1, r8.1, y11.2.2.2.2)).set n12 (y13.1, y13.2.1, y13.2.2.1, y13.2.2.2.1, decide ((Int.tmod (IntKind.wrap .i64 (r8.1 + (1 : Int))) (3 : Int)) = (0 : Int)), y13.2.2.2.2.2)).length x0.2.2 fun n14 =>
     Option.bind (((((x0.1.set n2 (x0.2.1, y3.2)).set n4 (y5.1, IntKind.wrap .i64 (x0.2.1 + (1 : Int)), y5.2.2)).set n6 (y9.1, y9.2.1, r8.2, y9.2.2.2)).set n10 (y11.1, y11.2.1, y11.2.2.1, r8.1, y11.2.2.2.2)).set n12 (y13.1, y13.2.1, y13.2.2.1, y13.2.2.2.1, decide ((Int.tmod (IntKind.wrap .i64 (r8.1 + (1 : Int))) (3 : Int)) = (0 : Int)), y13.2.2.2.2.2))[n14]? fun y15 =>
     Option.bind (g_lmarkEdgeS (y15.2.2.2.2.2.1, IntKind.wrap .i64 ((IntKind.wrap .i64 (r8.1 + (1 : Int))) + (1 : Int)))) fun r16 =>
     Option.bind (((((x0.1.set n2 (x0.2.1, y3.2)).set n4 (y5.1, IntKind.wrap .i64 (x0.2.1 + (1 : Int)), y5.2.2)).set n6 (y9.1, y9.2.1, r8.2, y9.2.2.2)).set n10 (y11.1, y11.2.1, y11.2.2.1, r8.1, y11.2.2.2.2)).set n12 (y13.1, y13.2.1, y13.2.2.1, y13.2.2.2.1, decide ((Int.tmod (IntKind.wrap .i64 (r8.1 + (1 : Int))) (3 : Int)) = (0 : Int)), y13.2.2.2.2.2))[n14]? fun y17 =>
     bnd ((((((x0.1.set n2 (x0.2.1, y3.2)).set n4 (y5.1, IntKind.wrap .i64 (x0.2.1 + (1 : Int)), y5.2.2)).set n6 (y9.1, y9.2.1, r8.2, y9.2.2.2)).set n10 (y11.1, y11.2.1, y11.2.2.1, r8.1, y11.2.2.2.2)).set n12 (y13.1, y13.2.1, y13.2.2.1, y13.2.2.2.1, decide ((Int.tmod (IntKind.wrap .i64 (r8.1 + (1 : Int))) (3 : Int)) = (0 : Int)), y13.2.2.2.2.2)).set n14 (y17.1, y17.2.1, y17.2.2.1, y17.2.2.2.1, y17.2.2.2.2.1, r16.2, y17.2.2.2.2.2.2)).length x0.2.2 fun n18 =>
     Option.bind ((((((x0.1.set n2 (x0.2.1, y3.2)).set n4 (y5.1, IntKind.wrap .i64 (x0.2.1 + (1 : Int)), y5.2.2)).set n6 (y9.1, y9.2.1, r8.2, y9.2.2.2)).set n10 (y11.1, y11.2.1, y11.2.2.1, r8.1, y11.2.2.2.2)).set n12 (y13.1, y13.2.1, y13.2.2.1, y13.2.2.2.1, decide ((Int.tmod (IntKind.wrap .i64 (r8.1 + (1 : Int))) (3 : Int)) = (0 : Int)), y13.2.2.2.2.2)).set n14 (y17.1, y17.2.1, y17.2.2.1, y17.2.2.2.1, y17.2.2.2.2.1, r16.2, y17.2.2.2.2.2.2))[n18]? fun y19 =>
     Option.bind (g_lmarkIntS (y19.2.2.2.2.2.2, r16.1)) fun r20 =>
     Option.bind ((((((x0.1.set n2 (x0.2.1, y3.2)).set n4 (y5.1, IntKind.wrap .i64 (x0.2.1 + (1 : Int)), y5.2.2)).set n6 (y9.1, y9.2.1, r8.2, y9.2.2.2)).set n10 (y11.1, y11.2.1, y11.2.2.1, r8.1, y11.2.2.2.2)).set n12 (y13.1, y13.2.1, y13.2.2.1, y13.2.2.2.1, decide ((Int.tmod (IntKind.wrap .i64 (r8.1 + (1 : Int))) (3 : Int)) = (0 : Int)), y13.2.2.2.2.2)).set n14 (y17.1, y17.2.1, y17.2.2.1, y17.2.2.2.1, y17.2.2.2.2.1, r16.2, y17.2.2.2.2.2.2))[n18]? fun y21 =>
     self1 (((((((x0.1.set n2 (x0.2.1, y3.2)).set n4 (y5.1, IntKind.wrap .i64 (x0.2.1 + (1 : Int)), y5.2.2)).set n6 (y9.1, y9.2.1, r8.2, y9.2.2.2)).set n10 (y11.1, y11.2.1, y11.2.2.1, r8.1, y11.2.2.2.2)).set n12 (y13.1, y13.2.1, y13.2.2.1, y13.2.2.2.1, decide ((Int.tmod (IntKind.wrap .i64 (r8.1 + (1 : Int))) (3 : Int)) = (0 : Int)), y13.2.2.2.2.2)).set n14 (y17.1, y17.2.1, y17.2.2.1, y17.2.2.2.1, y17.2.2.2.2.1, r16.2, y17.2.2.2.2.2.2)).set n18 (y21.1, y21.2.1, y21.2.2.1, y21.2.2.2.1, y21.2.2.2.2.1, y21.2.2.2.2.2.1, r20.2), r20.1, IntKind.wrap .i64 (x0.2.2 + (1 : Int)))
    else some (x0.1, x0.2.1)) (by
    intro self out i k y hi hl hy hya hk0 hk1
    have hi' : i < out.length := by omega
    have hz' := z_ShardS_mem (List.mem_of_getElem? hya)
    obtain ⟨t2, c2, m2, d2, l2, u2⟩ := mh_LedgeS y.2.2.1 (k + 1 + 1) (by omega) (by omega) (by omega)
    obtain ⟨t5, c5, m5, d5, l5, u5⟩ := mh_EdgeS y.2.2.2.2.2.1 (c2 + 1 + 1) (by omega) (by omega) (by omega)
    obtain ⟨t6, c6, m6, d6, l6, u6⟩ := mh_IntS y.2.2.2.2.2.2 (c5) (by omega) (by omega) (by omega)
    have hb : k + 1 + 1 ≤ c2 ∧ c2 + 1 + 1 ≤ c5 ∧ c5 ≤ c6 ∧ c6 ≤ 4611686018427387000 := ⟨by omega, by omega, by omega, by omega⟩
    have hlt : (i : Int) < (a.length : Int) := by omega
    have hc : k ≤ c6 ∧ c6 ≤ k + 117440516 := by omega
    have h1 : IntKind.wrap .i64 ((i : Int) + 1) = ((i + 1 : Nat) : Int) := wr1 (by omega)
    have hk' : 0 ≤ k := by omega
    obtain ⟨w0, w1, w2, w3, n2, n5, n6⟩ := hw_ShardS k c2 c5 c6 hk' hb
    refine ⟨(k, k + 1, t2, c2, decide (Int.tmod (c2 + 1) 3 = 0), t5, t6), c6, ⟨c2, c5, c6, ⟨rfl, rfl, rfl, rfl⟩, ⟨d2, d5, d6⟩, hb, rfl, hk'⟩, hc.1, hc.2, ?_⟩
    clear hz' hk0 hk1 hb hc hk' hya hk hz
    simp only [hl, hlt, decide_true, cond_true, List.length_set, bnd_nat hi, hy, List.getElem?_set_self hi', Option.bind_some, List.set_set, w0, w1, w2, w3, m2, m5, m6, show decide ((3 : Int) = 0) = false from rfl, cond_false, and_true, h1]) (by
    intro self out k hl
    simp [hl])
  obtain ⟨t, c, e1, e2, e3, e4, e5⟩ := L
  refine ⟨t, c, ?_, ?_, e4, by omega⟩
  · show f_lmarkShardS BIG _ = _
    rw [e_lmarkShardS, e1]
    rfl
  · exact hx_ShardS t k c (by omega) e2
theorem eq_BoolS (a b : List (Bool)) (h : a.length ≤ 4294967296) : g_leqBoolS (a, b) = some (decide (a = b), ()) := by
  have hm : maxLen = 9223372036854775807 := by decide
  show f_leqBoolS BIG _ = _
  rw [e_leqBoolS]
  by_cases hl : a.length = b.length
  · rw [decide_eq_true (by omega), Bool.not_true, cond_false, eqLoop a b (by omega) hl false]
    · by_cases h : a = b <;> simp [h]
    · intro self i x y hx hy
      have hi := (List.getElem?_eq_some_iff.1 hx).1
      simp only [show ((i : Int) < (a.length : Int)) from by omega, decide_true, cond_true]
      rw [bnd_nat hi, hx, Option.bind_some, bnd_nat (by omega), hy, Option.bind_some]
      rw [wr1 (by omega)]
      cases x <;> cases y <;> simp
    · intro self
      simp
  · rw [decide_eq_false (by omega), Bool.not_false, cond_true, decide_eq_false (fun h => hl (by rw [h]))]
def hd_BoolS (k : Int) (z : Bool) (k' : Int) : Prop := z = decide (Int.tmod (k) 3 = 0) ∧ k' = k + 1 ∧ 0 ≤ k ∧ k ≤ 4611686018427387904
theorem mh_BoolS (a : List (Bool)) (k : Int) (h0 : 0 ≤ k) (hk : k + 16777216 ≤ 4611686018427387904) (hz : a.length ≤ 16777216) : ∃ t c, g_lmarkBoolS (a, k) = some (c, t) ∧ g_lheldBoolS (t, k) = some (c, ()) ∧ k ≤ c ∧ c ≤ k + 16777216 := by
  have hm : maxLen = 9223372036854775807 := by decide
  have L := mkLoop hd_BoolS 1 (by omega) a k (by omega) (F := fun self1 x0 =>
    bif decide (x0.2.2 < (x0.1.length : Int)) then
     bif decide ((3 : Int) = 0) then
      none
     else bnd x0.1.length x0.2.2 fun n2 =>
     Option.bind x0.1[n2]? fun y3 =>
     self1 (x0.1.set n2 (decide ((Int.tmod x0.2.1 (3 : Int)) = (0 : Int))), IntKind.wrap .i64 (x0.2.1 + (1 : Int)), IntKind.wrap .i64 (x0.2.2 + (1 : Int)))
    else some (x0.1, x0.2.1)) (by
    intro self out i k y hi hl hy _ hk0 hk1
    have hi' : i < out.length := by omega
    have w1 : IntKind.wrap .i64 (k + 1) = k + 1 := wr (by omega) (by omega)
    refine ⟨decide (Int.tmod (k) 3 = 0), k + 1, ⟨rfl, rfl, by omega, by omega⟩, by omega, by omega, ?_⟩
    simp only [hl, show ((i : Int) < (a.length : Int)) from by omega, decide_true, cond_true, List.length_set, bnd_nat hi, hy, List.getElem?_set_self hi', Option.bind_some, List.set_set, w1, show decide ((3 : Int) = 0) = false from rfl, cond_false, and_true]
    rw [wr1 (by omega)]) (by
    intro self out k hl
    simp [hl])
  obtain ⟨t, c, e1, e2, e3, e4, e5⟩ := L
  refine ⟨t, c, ?_, ?_, e4, by omega⟩
  · show f_lmarkBoolS BIG _ = _
    rw [e_lmarkBoolS, e1]
    rfl
  · show f_lheldBoolS BIG _ = _
    rw [e_lheldBoolS, hdLoop hd_BoolS t k c (by omega) e2]
    · rfl
    · intro self i kk kk' z hz ⟨g1, g2, g3, g4⟩
      subst g2
      rw [g1] at hz
      have hi := (List.getElem?_eq_some_iff.1 hz).1
      have w1 : IntKind.wrap .i64 (kk + 1) = kk + 1 := wr (by omega) (by omega)
      simp only [show ((i : Int) < (t.length : Int)) from by omega, decide_true, cond_true, bnd_nat hi, hz, Option.bind_some, w1, Bool.not_true, cond_false, show decide ((3 : Int) = 0) = false from rfl, cond_false, beq_self_eq_true]
      rw [wr1 (by omega)]
    · intro self k
      simp
theorem h_iWebNew (n : Int) : g_iWebNew n = some (if inB n 1 12 then (n, [], true) else (0, [], false), ()) := by
  show f_iWebNew BIG _ = _
  rw [e_iWebNew, h_iin', Option.bind_some]
  cases inB n 1 12 <;> rfl
theorem h_sWebNew (n : Int) : g_sWebNew n = some (if inB n 1 12 then (n, [], true) else (0, [], false), ()) := by
  show f_sWebNew BIG _ = _
  rw [e_sWebNew, h_sl01In', Option.bind_some]
  cases inB n 1 12 <;> rfl
theorem h_iShardNew (a b : Int) : g_iShardNew (a, b) = some (if inB a 1 3 && inB b 1 12 then (a, b, [], 0, false, [], [], true) else (0, 0, [], 0, false, [], [], false), ()) := by
  show f_iShardNew BIG _ = _
  rw [e_iShardNew, h_iWebNew, h_iin']
  cases inB a 1 3 <;> cases inB b 1 12 <;> rfl
theorem h_sShardNew (a b : Int) : g_sShardNew (a, b) = some (if inB a 1 3 && inB b 1 12 then (a, b, [], 0, false, [], [], true) else (0, 0, [], 0, false, [], [], false), ()) := by
  show f_sShardNew BIG _ = _
  rw [e_sShardNew, h_sWebNew, h_sl01In']
  cases inB a 1 3 <;> cases inB b 1 12 <;> rfl
theorem neg_f {c : Int} (h : 1 ≤ c) : decide (c < 0) = false := decide_eq_false (by omega)
/-- A loop that counts up to a number and keeps an account. -/
theorem rangeLoop {S B : Type} (n : Nat) (hl : n < 18446744073709551616) {F : (S × Int → Option B) → S × Int → Option B} (I : Nat → S → Prop) (st : Nat → S → S) (R : S → B) {s0 : S} (h0 : I 0 s0)
    (hI : ∀ i s, i < n → I i s → I (i + 1) (st i s)) (hF : ∀ self s (i : Nat), i < n → I i s → F self (s, (i : Int)) = self (st i s, ((i + 1 : Nat) : Int)))
    (hE : ∀ self s, I n s → F self (s, (n : Int)) = some (R s)) : loopT BIG F (s0, 0) = some (R ((List.range n).foldl (fun s i => st i s) s0)) := by
  have hr : ∀ {i y : Nat}, (List.range n)[i]? = some y → i < n ∧ y = i := by
    intro i y h
    have hi := (List.getElem?_eq_some_iff.1 h).1
    rw [List.length_range] at hi
    rw [List.getElem?_range hi] at h
    cases h
    exact ⟨hi, rfl⟩
  refine foldLoop (List.range n) (by rw [List.length_range]; exact hl) I (fun s i => st i s) R h0 (fun i s y hy hi => ?_) (fun self s i y hy hi => ?_) (fun self s hs => ?_)
  · obtain ⟨h1, rfl⟩ := hr hy; exact hI _ _ h1 hi
  · obtain ⟨h1, rfl⟩ := hr hy; exact hF _ _ _ h1 hi
  · rw [List.length_range] at hs ⊢; exact hE _ _ hs
theorem fold_snoc {α : Type} (f : Nat → α) (n : Nat) (s : List α) : (List.range n).foldl (fun s i => s ++ [f i]) s = s ++ (List.range n).map f := by
  induction n with
  | zero => simp
  | succ n ih => rw [List.range_succ, List.foldl_append, ih]; simp
theorem lab0Loop (n : Nat) (hn : n ≤ 1000000) {F : (List Int × Int → Option (List Int)) → List Int × Int → Option (List Int)}
    (hF : ∀ self out (i : Nat), i < n → out.length = i → F self (out, (i : Int)) = self (out ++ [(i : Int)], ((i + 1 : Nat) : Int)))
    (hE : ∀ self out, F self (out, (n : Int)) = some out) : loopT BIG F ([], 0) = some (lab0 n) := by
  rw [rangeLoop n (by omega) (fun i (s : List Int) => s.length = i) (fun i s => s ++ [(i : Int)]) id rfl (fun i s _ h => by simp [h]) (fun self s i hi h => hF self s i hi h) (fun self s _ => hE self s), fold_snoc]
  rfl
theorem h_ifirst (n : Nat) (hn : n ≤ 1000000) : g_ifirst (n : Int) = some (lab0 n, ()) := by
  have hm : maxLen = 9223372036854775807 := by decide
  show f_ifirst BIG _ = _
  rw [e_ifirst, lab0Loop n hn]
  · rfl
  · intro self out i hi hl
    simp only [show ((i : Int) < (n : Int)) from by omega, decide_true, cond_true]
    rw [decide_eq_true (by simp; omega), cond_true, wr1 (by omega)]
  · intro self out
    simp
theorem lrnds_fold (E : List (Int × Int)) (n : Nat) : ∀ l : List Int, (List.range n).foldl (fun s _ => lrnd E s) l = lrnds E n l := by
  have : ∀ (m : Nat) (l : List Int), lrnds E (m + 1) l = lrnd E (lrnds E m l) := by
    intro m
    induction m with
    | zero => intro l; rfl
    | succ m ih => intro l; show lrnds E (m + 1) (lrnd E l) = _; rw [ih]; rfl
  induction n with
  | zero => intro l; rfl
  | succ n ih => intro l; rw [List.range_succ, List.foldl_append, ih, this]; rfl
theorem h_sl05Labels (n : Nat) (E : List (Int × Int)) (hn : n ≤ 12) (hE : EIn n E) (hl : E.length ≤ 4611686018427387904) : g_sl05Labels ((n : Int), E) = some (labs n E, ()) := by
  have hm : maxLen = 9223372036854775807 := by decide
  show f_sl05Labels BIG _ = _
  rw [e_sl05Labels, lab0Loop n (by omega)]
  · rw [Option.bind_some, rangeLoop n (by omega) (fun i (s : List Int) => s.length = n) (fun _ s => lrnd E s) id (lab0_len n) (fun i s _ h => by rw [lrnd_len]; exact h)]
    · rw [lrnds_fold, lrnds_labs hE]; rfl
    · intro self s i hi hs
      simp only [show ((i : Int) < (n : Int)) from by omega, decide_true, cond_true]
      rw [foldLoop E (by omega) (fun _ (s : List Int) => s.length = n) rlE id hs (fun i s y _ h => by rw [rlE_len]; exact h)]
      · rw [Option.bind_some, wr1 (by omega)]; rfl
      · intro self s i y hy hs
        have hi := (List.getElem?_eq_some_iff.1 hy).1
        obtain ⟨h1, h2, h3, h4⟩ := hE y (List.mem_of_getElem? hy)
        have i1 : y.1.toNat < s.length := by omega
        have i2 : y.2.toNat < s.length := by omega
        simp only [show ((i : Int) < (E.length : Int)) from by omega, decide_true, cond_true]
        rw [wr1 (by omega), bnd_nat hi, hy, Option.bind_some, bnd_ok h1 (by omega), getD_at i1, Option.bind_some, bnd_nat hi, hy, Option.bind_some, bnd_ok h3 (by omega), getD_at i2, Option.bind_some]
        unfold rlE
        simp only
        by_cases c1 : s.getD y.1.toNat 0 < s.getD y.2.toNat 0
        · rw [decide_eq_true c1, cond_true, bnd_nat hi, hy, Option.bind_some, bnd_ok h3 (by omega), getD_at i2, Option.bind_some, Option.bind_some, decide_eq_false (by omega), cond_false, if_pos c1, if_neg (by omega)]
          rfl
        · rw [decide_eq_false c1, cond_false, Option.bind_some, if_neg c1]
          by_cases c2 : s.getD y.2.toNat 0 < s.getD y.1.toNat 0
          · rw [decide_eq_true c2, cond_true, bnd_nat hi, hy, Option.bind_some, bnd_ok h1 (by omega), getD_at i1, Option.bind_some, if_pos c2]
            rfl
          · rw [decide_eq_false c2, cond_false, if_neg c2]
            rfl
      · intro self s _
        simp
    · intro self s _
      simp
  · intro self out i hi hl
    simp only [show ((i : Int) < (n : Int)) from by omega, decide_true, cond_true]
    rw [decide_eq_true (by simp; omega), cond_true, wr1 (by omega)]
  · intro self out
    simp
abbrev Hd := Int × List Int × List (Int × Int) × List (List Int) × List Int × Int × Int × Int × Int × Int × Int × Int × List (Int × Int) × Int × List (Int × Int × Int × Int × Int × Int)
def ownL (n k : Nat) : List Int := (List.range n).map fun (i : Nat) => 1 + Int.tmod (i : Int) k
def hdN (n k : Nat) : Hd := ((n : Int), ownL n k, [], List.replicate k (lab0 n), List.replicate k 0, 0, 0, 0, 0, 0, 0, 0, [], 0, [])
theorem fold_own (f : Nat → Int) (n : Nat) (s : Hd) : (List.range n).foldl (fun (s : Hd) i => (s.1, s.2.1 ++ [f i], s.2.2)) s = (s.1, s.2.1 ++ (List.range n).map f, s.2.2) := by
  induction n with
  | zero => simp
  | succ n ih => rw [List.range_succ, List.foldl_append, ih]; simp
theorem fold_lab (L : List Int) (n : Nat) (s : Hd) : (List.range n).foldl (fun (s : Hd) i => (s.1, s.2.1, s.2.2.1, s.2.2.2.1 ++ [L], s.2.2.2.2)) s = (s.1, s.2.1, s.2.2.1, s.2.2.2.1 ++ List.replicate n L, s.2.2.2.2) := by
  induction n with
  | zero => simp
  | succ n ih => rw [List.range_succ, List.foldl_append, ih, List.replicate_succ']; simp
theorem fold_labn (L : List Int) (n : Nat) (s : Hd) : (List.range n).foldl (fun (s : Hd) i => (s.1, s.2.1, s.2.2.1, s.2.2.2.1 ++ [L], s.2.2.2.2.1 ++ [0], s.2.2.2.2.2)) s = (s.1, s.2.1, s.2.2.1, s.2.2.2.1 ++ List.replicate n L, s.2.2.2.2.1 ++ List.replicate n 0, s.2.2.2.2.2) := by
  induction n with
  | zero => simp
  | succ n ih => rw [List.range_succ, List.foldl_append, ih, List.replicate_succ', List.replicate_succ']; simp
theorem tmod_b {i k : Nat} (hk : 1 ≤ k) (hk' : k ≤ 3) : 0 ≤ Int.tmod (i : Int) k ∧ Int.tmod (i : Int) k < 3 := by
  rw [Int.tmod_eq_emod_of_nonneg (by omega)]
  have h1 := Int.emod_nonneg (i : Int) (show (k : Int) ≠ 0 from by omega)
  have h2 := Int.emod_lt_of_pos (i : Int) (show (0 : Int) < (k : Int) from by omega)
  omega
theorem h_iHeadNew (n k : Int) : ∃ r : Hd × Bool, r = (if inB n 1 12 && inB k 1 3 then (hdN n.toNat k.toNat, true) else ((0, [], [], [], [], 0, 0, 0, 0, 0, 0, 0, [], 0, []), false)) ∧
    g_iHeadNew (n, k) = some ((r.1.1, r.1.2.1, r.1.2.2.1, r.1.2.2.2.1, r.1.2.2.2.2.1, r.1.2.2.2.2.2.1, r.1.2.2.2.2.2.2.1, r.1.2.2.2.2.2.2.2.1, r.1.2.2.2.2.2.2.2.2.1, r.1.2.2.2.2.2.2.2.2.2.1, r.1.2.2.2.2.2.2.2.2.2.2.1, r.1.2.2.2.2.2.2.2.2.2.2.2.1, r.1.2.2.2.2.2.2.2.2.2.2.2.2.1, r.1.2.2.2.2.2.2.2.2.2.2.2.2.2.1, r.1.2.2.2.2.2.2.2.2.2.2.2.2.2.2, r.2), ()) ∧
    g_sHeadNew (n, k) = some ((r.1.1, r.1.2.1, r.1.2.2.1, r.1.2.2.2.1, r.1.2.2.2.2.1, r.1.2.2.2.2.2.1, r.1.2.2.2.2.2.2.1, r.1.2.2.2.2.2.2.2.1, r.1.2.2.2.2.2.2.2.2.1, r.1.2.2.2.2.2.2.2.2.2.1, r.1.2.2.2.2.2.2.2.2.2.2.1, r.1.2.2.2.2.2.2.2.2.2.2.2.1, r.1.2.2.2.2.2.2.2.2.2.2.2.2.1, r.1.2.2.2.2.2.2.2.2.2.2.2.2.2.1, r.1.2.2.2.2.2.2.2.2.2.2.2.2.2.2, r.2), ()) := by
  have hm : maxLen = 9223372036854775807 := by decide
  refine ⟨_, rfl, ?_⟩
  have hi : g_iHeadNew (n, k) = f_iHeadNew BIG (n, k) := rfl
  have hs : g_sHeadNew (n, k) = f_sHeadNew BIG (n, k) := rfl
  rw [hi, hs, e_iHeadNew, e_sHeadNew, h_iin', h_sl01In', h_iin', h_sl01In']
  simp only [Option.bind_some]
  cases hn : inB n 1 12 with
  | false => exact ⟨rfl, rfl⟩
  | true =>
    simp only [Bool.not_true, cond_false, Option.bind_some]
    cases hk : inB k 1 3 with
    | false => exact ⟨rfl, rfl⟩
    | true =>
      rw [inB_t] at hn hk
      obtain ⟨N, rfl⟩ : ∃ N : Nat, n = N := ⟨n.toNat, by omega⟩
      obtain ⟨K, rfl⟩ : ∃ K : Nat, k = K := ⟨k.toNat, by omega⟩
      simp only [Bool.not_true, cond_false, Int.toNat_natCast, Bool.and_self, if_true]
      have g1 : ∀ (s0 : Hd), s0.2.1 = [] → ∀ F : (Hd × Int → Option Hd) → Hd × Int → Option Hd,
          (∀ self (s : Hd) (i : Nat), i < N → s.2.1.length = i → F self (s, (i : Int)) = self ((s.1, s.2.1 ++ [1 + Int.tmod (i : Int) K], s.2.2), ((i + 1 : Nat) : Int))) → (∀ self s, F self (s, (N : Int)) = some s) →
          loopT BIG F (s0, 0) = some (s0.1, ownL N K, s0.2.2) := by
        intro s0 h0 F hF hE
        rw [rangeLoop N (by omega) (fun i (s : Hd) => s.2.1.length = i) (fun i s => (s.1, s.2.1 ++ [1 + Int.tmod (i : Int) K], s.2.2)) id (by rw [h0]; rfl) (fun i s _ h => by simp [h]) (fun self s i hi h => hF self s i hi h) (fun self s _ => hE self s), fold_own, h0]
        rfl
      constructor
      · rw [g1 _ rfl]
        · rw [Option.bind_some, rangeLoop K (by omega) (fun i (s : Hd) => s.2.2.2.1.length = i ∧ s.2.2.2.2.1.length = i) (fun _ s => (s.1, s.2.1, s.2.2.1, s.2.2.2.1 ++ [lab0 N], s.2.2.2.2.1 ++ [0], s.2.2.2.2.2)) id ⟨rfl, rfl⟩ (fun i s _ h => by simp [h.1, h.2])]
          · rw [fold_labn]; rfl
          · intro self s i hi ⟨hs1, hs2⟩
            simp only [show ((i : Int) < (K : Int)) from by omega, decide_true, cond_true]
            rw [h_ifirst N (by omega), Option.bind_some, decide_eq_true (by simp; omega), cond_true, decide_eq_true (by simp; omega), cond_true, wr1 (by omega)]
          · intro self s _
            simp
        · intro self s i hi hs
          have := tmod_b (i := i) (k := K) (by omega) (by omega)
          simp only [show ((i : Int) < (N : Int)) from by omega, decide_true, cond_true]
          rw [decide_eq_false (by omega), cond_false, wr (by omega) (by omega), decide_eq_true (by simp; omega), cond_true, wr1 (by omega)]
        · intro self s
          simp
      · rw [decide_eq_true (by omega), cond_true, decide_eq_true (by omega), cond_true, g1 _ rfl]
        · rw [Option.bind_some, rangeLoop K (by omega) (fun i (s : Hd) => s.2.2.2.1.length = i) (fun _ s => (s.1, s.2.1, s.2.2.1, s.2.2.2.1 ++ [lab0 N], s.2.2.2.2)) id rfl (fun i s _ h => by simp [h])]
          · rw [fold_lab]; rfl
          · intro self s i hi hs1
            simp only [show ((i : Int) < (K : Int)) from by omega, decide_true, cond_true]
            rw [h_sl05Labels N [] (by omega) (fun e he => by cases he) (by simp), Option.bind_some, decide_eq_true (by simp; omega), cond_true, wr1 (by omega)]
            rfl
          · intro self s _
            simp
        · intro self s i hi hs
          have := tmod_b (i := i) (k := K) (by omega) (by omega)
          simp only [show ((i : Int) < (N : Int)) from by omega, decide_true, cond_true]
          rw [decide_eq_false (by omega), cond_false, wr (by omega) (by omega), decide_eq_true (by simp; omega), cond_true, wr1 (by omega)]
        · intro self s
          simp
theorem z_repl (n : Nat) (L : List Int) : z_IntSS (List.replicate n L) = n + n * L.length := by
  unfold z_IntSS
  simp
theorem set_self {α : Type} {l : List α} {i : Nat} {y : α} (h : l[i]? = some y) : l.set i y = l := by
  apply List.ext_getElem?
  intro j
  rw [List.getElem?_set]
  split
  · subst j
    have := (List.getElem?_eq_some_iff.1 h).1
    simp [this, h.symm]
  · rfl
/-- A byte of a number. -/
def by8 (n : Int) : UInt8 := UInt8.ofNat (n % 256).toNat
def vF : Nat → Nat → List UInt8
  | 0, v => [by8 (v : Int)]
  | k + 1, v => if v ≤ 127 then [by8 (v : Int)] else by8 ((v % 128 + 128 : Nat) : Int) :: vF k (v / 128)
def vB (v : Nat) : List UInt8 := vF 9 v
def e2 (e : Ed) : List UInt8 := [by8 e.1, by8 e.2]
/-- A number read off bytes, of which it takes so many at most; and how many it took. -/
def dec : Nat → List UInt8 → Option (Nat × Nat)
  | 0, _ => none
  | _ + 1, [] => none
  | k + 1, b :: l => if b.toNat < 128 then some (b.toNat, 1) else (dec k l).map fun r => (b.toNat - 128 + 128 * r.1, r.2 + 1)
/-- What is read there, when it is a number in its own bytes. -/
def rdV (l : List UInt8) : Option (Nat × Nat) := match dec 5 l with
  | some (v, m) => if v ≤ 1000000000 ∧ vB v = l.take m then some (v, m) else none
  | none => none
abbrev St := Nat × Bool
def nm (T : List UInt8) (s : St) : Int × St :=
  if s.2 then (0, (s.1, true)) else match rdV (T.drop s.1) with
  | some (v, m) => ((v : Int), (s.1 + m, false))
  | none => (0, (s.1, true))
def on (T : List UInt8) (s : St) : Int × St :=
  if s.2 then (0, (s.1, true)) else match T[s.1]? with
  | some b => ((b.toNat : Int), (s.1 + 1, false))
  | none => (0, (s.1, true))
def edF (T : List UInt8) : Nat → St → List Ed → St × List Ed
  | 0, s, out => (s, out)
  | k + 1, s, out => if s.2 then (s, out) else edF T k (on T (on T s).2).2 (out ++ [((on T s).1, (on T (on T s).2).1)])
def q0 (T : List UInt8) : Int × St := nm T (0, false)
def q1 (T : List UInt8) : Int × St := on T (q0 T).2
def q2 (T : List UInt8) : Int × St := nm T (q1 T).2
def q3 (T : List UInt8) (K : Nat) : St × List Ed := edF T K (nm T (q2 T).2).2 []
def lbF (T : List UInt8) : Nat → St → List Int → St × List Int
  | 0, s, out => (s, out)
  | k + 1, s, out => lbF T k (on T s).2 (out ++ [(on T s).1])
def q4 (T : List UInt8) (K : Nat) : St × List Ed := edF T K (nm T (q1 T).2).2 []
def q5 (T : List UInt8) (K N : Nat) : St × List Int := lbF T N (q4 T K).1 []
abbrev Rc := Int × Int × Int × Int × Int × Int × Int × Bool × List (Int × Int) × List Int × Int × Int × List (Int × Int) × Int
theorem stopL {X B : Type} {F : (X → Option B) → X → Option B} (x : X) (b : B) (h : ∀ self, F self x = some b) : loopT BIG F x = some b :=
  loop_eq (fun y => y = x) (fun _ => 0) (fun _ => b) (fun self y hy hs => by subst hy; exact h self) (by decide) rfl
theorem stopB {X B C : Type} {F : (X → Option B) → X → Option B} {x : X} {k : B → Option C} {o : Option C} (b : B) (h : ∀ self, F self x = some b) (h2 : k b = o) : Option.bind (loopT BIG F x) k = o := by rw [stopL x b h]; exact h2
abbrev Fl := ByteArray × ByteArray × Int
theorem eq_FileS (a : List Fl) (h : a.length ≤ 1048576) : g_leqFileS (a, a) = some (true, ()) := by
  have hm : maxLen = 9223372036854775807 := by decide
  show f_leqFileS BIG _ = _
  rw [e_leqFileS, decide_eq_true rfl, Bool.not_true, cond_false, allLoop a (by omega) (fun _ => true) false]
  · rw [if_pos (fun _ _ => rfl)]; rfl
  · intro self i y hy
    have hi := (List.getElem?_eq_some_iff.1 hy).1
    have e : g_leqFile (y, y) = some (true, ()) := by
      show f_leqFile BIG _ = _
      rw [e_leqFile]; simp
    simp only [show ((i : Int) < (a.length : Int)) from by omega, decide_true, cond_true]
    rw [bnd_nat hi, hy, Option.bind_some, bnd_nat hi, hy, Option.bind_some, e, Option.bind_some, wr1 (by omega)]
    rfl
  · intro self; simp
theorem eq_Disk (a : List Fl) (h : a.length ≤ 1048576) : g_leqDisk (a, a) = some (true, ()) := by
  show f_leqDisk BIG _ = _
  rw [e_leqDisk, eq_FileS a h]; rfl
def zFl (y : Fl) : Nat := y.1.size + y.2.1.size
def zFS (a : List Fl) : Nat := a.length + (a.map zFl).sum
/-- A head that is right, and what is known of it. -/
structure HdF (x0 : Int) (x1 : List Int) (x2 : List Ed) (x3 : List (List Int)) (x4 : List Int) (x14 : List Sd) : Prop where
  n : 1 ≤ x0 ∧ x0 ≤ 12
  k : 1 ≤ x3.length ∧ x3.length ≤ 3
  nums : x4.length = x3.length
  own : (x1.length : Int) = x0
  cuts : eOk x0 x2 = true
  said : x14.length ≤ 80
  o1 : ∀ i, i < x1.length → 1 ≤ x1.getD i 0 ∧ x1.getD i 0 ≤ x3.length
  o3 : ∀ i, i < x3.length → lbOk x0 (x3.getD i []) = true ∧ 0 ≤ x4.getD i 0 ∧ x4.getD i 0 ≤ 99991
section
variable {x0 : Int} {x1 : List Int} {x2 : List Ed} {x3 : List (List Int)} {x4 : List Int} {x14 : List Sd}
theorem HdF.at (h : HdF x0 x1 x2 x3 x4 x14) {v : Int} (h1 : 0 ≤ v) (h2 : v ≤ x0 - 1) : v < x1.length ∧ x1[v.toNat]? = some (x1.getD v.toNat 0) ∧ 1 ≤ x1.getD v.toNat 0 ∧ x1.getD v.toNat 0 ≤ x3.length := by
  have ho := h.own
  have := h.o1 v.toNat (by omega)
  exact ⟨by omega, getD_at (by omega), this.1, this.2⟩
end
theorem ownL_len (n k : Nat) : (ownL n k).length = n := by simp [ownL]
abbrev ShT := Int × Int × List (Int × Int × Int × Bool) × Int × Bool × List (Int × Int) × List Int
abbrev Pk := Int × Int × ByteArray
abbrev Cl7 := Int × Int × Int × Int × Int × Int × Int
def z_DiskS (a : List (List Fl)) : Nat := a.length + (a.map zFS).sum
def zPk (y : Pk) : Nat := y.2.2.size
def z_PacketS (a : List Pk) : Nat := a.length + (a.map zPk).sum
theorem sum_mem {α : Type} (z : α → Nat) {a : List α} {y : α} (h : y ∈ a) : z y ≤ (a.map z).sum := by
  induction a with
  | nil => cases h
  | cons x a ih =>
    rw [List.map_cons, List.sum_cons]
    rcases List.mem_cons.1 h with rfl | h
    · omega
    · have := ih h; omega
theorem eq_DiskS (a : List (List Fl)) (h : z_DiskS a ≤ 1048576) : g_leqDiskS (a, a) = some (true, ()) := by
  have hm : maxLen = 9223372036854775807 := by decide
  have h1 : a.length ≤ 1048576 := by unfold z_DiskS at h; omega
  show f_leqDiskS BIG _ = _
  rw [e_leqDiskS, decide_eq_true rfl, Bool.not_true, cond_false, allLoop a (by omega) (fun _ => true) false]
  · rw [if_pos (fun _ _ => rfl)]; rfl
  · intro self i y hy
    have hi := (List.getElem?_eq_some_iff.1 hy).1
    have hz := sum_mem zFS (List.mem_of_getElem? hy)
    have hz2 : y.length ≤ zFS y := Nat.le_add_right _ _
    unfold z_DiskS at h
    have e := eq_Disk y (by omega)
    simp only [show ((i : Int) < (a.length : Int)) from by omega, decide_true, cond_true]
    rw [bnd_nat hi, hy, Option.bind_some, bnd_nat hi, hy, Option.bind_some, e, Option.bind_some, wr1 (by omega)]
    rfl
  · intro self; simp
theorem eq_PacketS (a : List Pk) (h : a.length ≤ 1048576) : g_leqPacketS (a, a) = some (true, ()) := by
  have hm : maxLen = 9223372036854775807 := by decide
  have h1 : a.length ≤ 1048576 := by omega
  show f_leqPacketS BIG _ = _
  rw [e_leqPacketS, decide_eq_true rfl, Bool.not_true, cond_false, allLoop a (by omega) (fun _ => true) false]
  · rw [if_pos (fun _ _ => rfl)]; rfl
  · intro self i y hy
    have hi := (List.getElem?_eq_some_iff.1 hy).1
    have e : g_leqPacket (y, y) = some (true, ()) := by
      show f_leqPacket BIG _ = _
      rw [e_leqPacket]; simp
    simp only [show ((i : Int) < (a.length : Int)) from by omega, decide_true, cond_true]
    rw [bnd_nat hi, hy, Option.bind_some, bnd_nat hi, hy, Option.bind_some, e, Option.bind_some, wr1 (by omega)]
    rfl
  · intro self; simp
theorem eq_CallS (a : List Cl7) (h : a.length ≤ 1048576) : g_leqCallS (a, a) = some (true, ()) := by
  have hm : maxLen = 9223372036854775807 := by decide
  have h1 : a.length ≤ 1048576 := by omega
  show f_leqCallS BIG _ = _
  rw [e_leqCallS, decide_eq_true rfl, Bool.not_true, cond_false, allLoop a (by omega) (fun _ => true) false]
  · rw [if_pos (fun _ _ => rfl)]; rfl
  · intro self i y hy
    have hi := (List.getElem?_eq_some_iff.1 hy).1
    have e : g_leqCall (y, y) = some (true, ()) := by
      show f_leqCall BIG _ = _
      rw [e_leqCall, eq_Ask]; simp
    simp only [show ((i : Int) < (a.length : Int)) from by omega, decide_true, cond_true]
    rw [bnd_nat hi, hy, Option.bind_some, bnd_nat hi, hy, Option.bind_some, e, Option.bind_some, wr1 (by omega)]
    rfl
  · intro self; simp
theorem ps_le (ps : List Pk) : ps.length ≤ z_PacketS ps := Nat.le_add_right _ _
theorem eq_World (n x0 : Int) (x1 : List Int) (x2 : List Ed) (x3 : List (List Int)) (x4 : List Int) (x5 x6 x7 x8 x9 x10 x11 : Int) (x12 : List Ed) (x13 : Int) (x14 : List Sd) (ss : List ShT) (ds : List (List Fl)) (us : List Bool) (ps : List Pk) (cs : List Cl7) (rs : List Rc) (h : ((x1.length + x2.length + z_IntSS x3 + x4.length + x12.length + x14.length) + z_ShardS ss + z_DiskS ds + us.length + z_PacketS ps + cs.length + z_RecS rs) ≤ 1048576) : g_leqWorld ((n, x0, x1, x2, x3, x4, x5, x6, x7, x8, x9, x10, x11, x12, x13, x14, ss, ds, us, ps, cs, rs), (n, x0, x1, x2, x3, x4, x5, x6, x7, x8, x9, x10, x11, x12, x13, x14, ss, ds, us, ps, cs, rs)) = some (true, ()) := by
  have hp := ps_le ps
  show f_leqWorld BIG _ = _
  rw [e_leqWorld]
  dsimp only
  rw [decide_eq_true rfl, Bool.not_true, cond_false, eq_Head x0 x1 x2 x3 x4 x5 x6 x7 x8 x9 x10 x11 x12 x13 x14 (by omega), Option.bind_some, Bool.not_true, cond_false, eq_ShardS ss (by omega), Option.bind_some, Bool.not_true, cond_false, eq_DiskS ds (by omega), Option.bind_some, Bool.not_true, cond_false, eq_BoolS us us (by omega), Option.bind_some, decide_eq_true rfl, Bool.not_true, cond_false, eq_PacketS ps (by omega), Option.bind_some, Bool.not_true, cond_false, eq_CallS cs (by omega), Option.bind_some, Bool.not_true, cond_false, eq_RecS rs (by omega), Option.bind_some, Bool.not_true, cond_false]
/-- The first shards. -/
def shN (n : Int) (m : Nat) : List ShT := (List.range m).map fun i => (((i + 1 : Nat) : Int), n, [], 0, false, [], [])
theorem shN_succ (n : Int) (m : Nat) : shN n (m + 1) = shN n m ++ [(((m + 1 : Nat) : Int), n, [], 0, false, [], [])] := by
  unfold shN
  rw [List.range_succ, List.map_append]; rfl
theorem shN_len (n : Int) (m : Nat) : (shN n m).length = m := by simp [shN]
theorem z_shN (n : Int) : ∀ m : Nat, z_ShardS (shN n m) = m
  | 0 => by simp [shN, z_ShardS]
  | m + 1 => by
    have ih := z_shN n m
    rw [shN_succ]
    unfold z_ShardS at ih ⊢
    rw [List.map_append, List.sum_append, List.length_append]
    simp only [List.map_cons, List.map_nil, List.sum_cons, List.sum_nil, List.length_cons, List.length_nil]
    omega
abbrev WoT := Int × Int × List Int × List (Int × Int) × List (List Int) × List Int × Int × Int × Int × Int × Int × Int × Int × List (Int × Int) × Int × List (Int × Int × Int × Int × Int × Int) × List ShT × List (List Fl) × List Bool × List Pk × List Cl7 × List Rc
section
variable (n k : Nat)
def wsI (i : Nat) : WoT := ((n : Int), (n : Int), ownL n k, [], List.replicate k (lab0 n), List.replicate k 0, 0, 0, 0, 0, 0, 0, 0, [], 0, [], shN n (i - 1), List.replicate i [], List.replicate i true, [], [], [])
def wsS (i : Nat) : WoT := ((n : Int), (n : Int), ownL n k, [], List.replicate k (lab0 n), List.replicate k 0, 0, 0, 0, 0, 0, 0, 0, [], 0, [], shN n (i - 1), List.replicate (k + 1) [], List.replicate i true ++ List.replicate (k + 1 - i) false, [], [], [])
end
theorem ws_end (n k : Nat) : wsS n k (k + 1) = wsI n k (k + 1) := by
  unfold wsS wsI
  simp
def wnR (a b : Int) : WoT × Bool := if (inB a 1 12 && inB b 1 3) = true then (wsI a.toNat b.toNat (b.toNat + 1), true) else ((0, 0, [], [], [], [], 0, 0, 0, 0, 0, 0, 0, [], 0, [], [], [], [], [], [], []), false)
theorem rep_snoc {α : Type} (i : Nat) (a : α) : List.replicate i a ++ [a] = List.replicate (i + 1) a := by rw [← List.replicate_succ']
theorem rep_set (i m : Nat) (h : i < m) : (List.replicate i true ++ List.replicate (m - i) false).set i true = List.replicate (i + 1) true ++ List.replicate (m - (i + 1)) false := by
  obtain ⟨d, hd⟩ : ∃ d, m - i = d + 1 := ⟨m - i - 1, by omega⟩
  rw [hd, show m - (i + 1) = d from by omega, List.set_append_right _ _ (by simp), List.length_replicate, Nat.sub_self, List.replicate_succ, List.set_cons_zero, ← rep_snoc i true, List.append_assoc]
  rfl
def flW (w : WoT) (b : Bool) := (w.1, w.2.1, w.2.2.1, w.2.2.2.1, w.2.2.2.2.1, w.2.2.2.2.2.1, w.2.2.2.2.2.2.1, w.2.2.2.2.2.2.2.1, w.2.2.2.2.2.2.2.2.1, w.2.2.2.2.2.2.2.2.2.1, w.2.2.2.2.2.2.2.2.2.2.1, w.2.2.2.2.2.2.2.2.2.2.2.1, w.2.2.2.2.2.2.2.2.2.2.2.2.1, w.2.2.2.2.2.2.2.2.2.2.2.2.2.1, w.2.2.2.2.2.2.2.2.2.2.2.2.2.2.1, w.2.2.2.2.2.2.2.2.2.2.2.2.2.2.2.1, w.2.2.2.2.2.2.2.2.2.2.2.2.2.2.2.2.1, w.2.2.2.2.2.2.2.2.2.2.2.2.2.2.2.2.2.1, w.2.2.2.2.2.2.2.2.2.2.2.2.2.2.2.2.2.2.1, w.2.2.2.2.2.2.2.2.2.2.2.2.2.2.2.2.2.2.2.1, w.2.2.2.2.2.2.2.2.2.2.2.2.2.2.2.2.2.2.2.2.1, w.2.2.2.2.2.2.2.2.2.2.2.2.2.2.2.2.2.2.2.2.2, b)
theorem w_iWorldNew (a b : Int) : g_iWorldNew (a, b) = some (flW (wnR a b).1 (wnR a b).2, ()) := by
  have hm : maxLen = 9223372036854775807 := by decide
  show f_iWorldNew BIG _ = _
  rw [e_iWorldNew]
  obtain ⟨r, hr, hi, _⟩ := h_iHeadNew a b
  rw [hi, Option.bind_some]
  unfold wnR
  cases hc : inB a 1 12 && inB b 1 3 with
  | false =>
    rw [hc] at hr
    simp only [Bool.false_eq_true, if_false] at hr
    subst hr
    rfl
  | true =>
    rw [hc, if_pos rfl] at hr
    simp only [Bool.and_eq_true, inB_t] at hc
    subst hr
    obtain ⟨n, rfl⟩ : ∃ n : Nat, a = (n : Int) := ⟨a.toNat, by omega⟩
    obtain ⟨m, rfl⟩ : ∃ m : Nat, b = (m : Int) := ⟨b.toNat, by omega⟩
    unfold hdN
    simp only [Int.toNat_natCast, Bool.not_true, cond_false, if_true]
    rw [loop_eq (fun (x : WoT × Int) => ∃ i : Nat, x.2 = (i : Int) ∧ i ≤ m + 1 ∧ x.1 = wsI n m i) (fun x => m + 1 - x.2.toNat) (fun _ => wsI n m (m + 1)) (fun self x ⟨i, h1, h2, h3⟩ hs => ?_) (n := BIG) (by simp [BIG]; omega) ⟨0, rfl, by omega, rfl⟩]
    · rfl
    · obtain ⟨s, j⟩ := x
      simp only at h1 h3
      subst h1 h3
      by_cases hi : i ≤ m
      · simp only [show ((i : Int) ≤ (m : Int)) from by omega, decide_true, cond_true]
        rw [h_iShardNew, wr1 (by omega)]
        refine Eq.trans ?_ (hs (wsI n m (i + 1), ((i + 1 : Nat) : Int)) ⟨i + 1, rfl, by omega, rfl⟩ (by simp; omega))
        have hin : inB (n : Int) 1 12 = true := inB_t.2 (by omega)
        cases i with
        | zero => rfl
        | succ i =>
          have h13 : inB ((i + 1 : Nat) : Int) 1 3 = true := inB_t.2 (by omega)
          rw [h13, hin]
          unfold wsI
          simp only [Bool.and_self, if_true, Option.bind_some, cond_true, Nat.add_sub_cancel, shN_len, List.length_replicate, List.length_cons, List.length_nil]
          rw [decide_eq_true (show i + (0 + 1) ≤ 4294967296 from by omega)]
          simp only [cond_true, Option.bind_some, List.length_replicate]
          rw [decide_eq_true (show i + 1 + (0 + 1) ≤ 4294967296 from by omega)]
          simp only [cond_true, Option.bind_some, rep_snoc, ← shN_succ]
      · have : i = m + 1 := by omega
        subst this
        simp only [show ¬ (((m + 1 : Nat) : Int) ≤ (m : Int)) from by omega, decide_false, cond_false]
theorem w_sWorldNew (a b : Int) : g_sWorldNew (a, b) = some (flW (wnR a b).1 (wnR a b).2, ()) := by
  have hm : maxLen = 9223372036854775807 := by decide
  show f_sWorldNew BIG _ = _
  rw [e_sWorldNew]
  obtain ⟨r, hr, _, hi⟩ := h_iHeadNew a b
  rw [hi, Option.bind_some]
  unfold wnR
  cases hc : inB a 1 12 && inB b 1 3 with
  | false =>
    rw [hc] at hr
    simp only [Bool.false_eq_true, if_false] at hr
    subst hr
    rfl
  | true =>
    rw [hc, if_pos rfl] at hr
    simp only [Bool.and_eq_true, inB_t] at hc
    subst hr
    obtain ⟨n, rfl⟩ : ∃ n : Nat, a = (n : Int) := ⟨a.toNat, by omega⟩
    obtain ⟨m, rfl⟩ : ∃ m : Nat, b = (m : Int) := ⟨b.toNat, by omega⟩
    unfold hdN
    have hw : IntKind.wrap .i64 ((m : Int) + 1) = ((m + 1 : Nat) : Int) := wr1 (by omega)
    simp only [Int.toNat_natCast, Bool.not_true, cond_false, if_true, hw]
    rw [decide_eq_true (show (0 : Int) ≤ ((m + 1 : Nat) : Int) from by omega), decide_eq_true (show m + 1 ≤ 4294967296 from by omega)]
    simp only [cond_true]
    rw [loop_eq (fun (x : WoT × Int) => ∃ i : Nat, x.2 = (i : Int) ∧ i ≤ m + 1 ∧ x.1 = wsS n m i) (fun x => m + 1 - x.2.toNat) (fun _ => wsS n m (m + 1)) (fun self x ⟨i, h1, h2, h3⟩ hs => ?_) (n := BIG) (by simp [BIG]; omega) ⟨0, rfl, by omega, by simp [wsS, shN]⟩]
    · rw [ws_end]; rfl
    · obtain ⟨s, j⟩ := x
      simp only at h1 h3
      subst h1 h3
      by_cases hi : i ≤ m
      · simp only [show ((i : Int) ≤ (m : Int)) from by omega, decide_true, cond_true]
        rw [wr1 (by omega)]
        refine Eq.trans ?_ (hs (wsS n m (i + 1), ((i + 1 : Nat) : Int)) ⟨i + 1, rfl, by omega, rfl⟩ (by simp; omega))
        have hin : inB (n : Int) 1 12 = true := inB_t.2 (by omega)
        have hl : i < (List.replicate i true ++ List.replicate (m + 1 - i) false).length := by simp; omega
        have hset := rep_set i (m + 1) (by omega)
        unfold wsS
        simp only [bnd_nat hl, List.getElem?_eq_getElem hl, Option.bind_some, hset]
        cases i with
        | zero => rfl
        | succ i =>
          have h13 : inB ((i + 1 : Nat) : Int) 1 3 = true := inB_t.2 (by omega)
          rw [h_sShardNew, h13, hin]
          simp only [show (0 : Int) < ((i + 1 : Nat) : Int) from by omega, decide_true, cond_true, Bool.and_self, if_true, Option.bind_some, Nat.add_sub_cancel, shN_len, List.length_cons, List.length_nil]
          rw [decide_eq_true (show i + (0 + 1) ≤ 4294967296 from by omega)]
          simp only [cond_true, Option.bind_some, ← shN_succ]
      · have : i = m + 1 := by omega
        subst this
        simp only [show ¬ (((m + 1 : Nat) : Int) ≤ (m : Int)) from by omega, decide_false, cond_false]
theorem mh_DiskS0 (m : Nat) (c : Int) (h0 : 0 ≤ c) (hm : m ≤ 1000) : g_lmarkDiskS (List.replicate m [], c) = some (c, List.replicate m []) ∧ g_lheldDiskS (List.replicate m [], c) = some (c, ()) := by
  have hM : maxLen = 9223372036854775807 := by decide
  have f1 : g_lmarkFileS ([], c) = some (c, []) := by
    show f_lmarkFileS BIG _ = _
    rw [e_lmarkFileS]
    exact stopB (([] : List Fl), c) (fun self => rfl) rfl
  have f2 : g_lheldFileS ([], c) = some (c, ()) := by
    show f_lheldFileS BIG _ = _
    rw [e_lheldFileS]
    exact stopB (Sum.inl c) (fun self => rfl) rfl
  have hg : ∀ i, i < m → (List.replicate m ([] : List Fl))[i]? = some [] := fun i hi => List.getElem?_replicate_of_lt hi
  have hset : ∀ i, i < m → (List.replicate m ([] : List Fl)).set i [] = List.replicate m [] := fun i hi => set_self (hg i hi)
  constructor
  · show f_lmarkDiskS BIG _ = _
    rw [e_lmarkDiskS, loop_eq (fun (x : List (List Fl) × Int × Int) => ∃ i : Nat, x.2.2 = (i : Int) ∧ i ≤ m ∧ x.1 = List.replicate m [] ∧ x.2.1 = c) (fun x => m - x.2.2.toNat) (fun _ => (List.replicate m [], c)) (fun self x ⟨i, h1, h2, h3, h4⟩ hs => ?_) (n := BIG) (by simp [BIG]; omega) ⟨0, rfl, by omega, rfl, rfl⟩]
    · rfl
    · obtain ⟨s, k, j⟩ := x
      simp only at h1 h3 h4
      subst h1 h3 h4
      rw [List.length_replicate]
      by_cases hi : i < m
      · simp only [show ((i : Int) < (m : Int)) from by omega, decide_true, cond_true, bnd_nat hi, hg i hi, Option.bind_some, f1, hset i hi]
        rw [wr1 (by omega)]
        exact hs _ ⟨i + 1, rfl, hi, rfl, rfl⟩ (by simp; omega)
      · simp only [show ¬ ((i : Int) < (m : Int)) from by omega, decide_false, cond_false]
  · show f_lheldDiskS BIG _ = _
    rw [e_lheldDiskS, loop_eq (fun (x : Int × Int) => ∃ i : Nat, x.2 = (i : Int) ∧ i ≤ m ∧ x.1 = c) (fun x => m - x.2.toNat) (fun _ => (Sum.inl c : Int ⊕ Int)) (fun self x ⟨i, h1, h2, h4⟩ hs => ?_) (n := BIG) (by simp [BIG]; omega) ⟨0, rfl, by omega, rfl⟩]
    · rfl
    · obtain ⟨k, j⟩ := x
      simp only at h1 h4
      subst h1 h4
      rw [List.length_replicate]
      by_cases hi : i < m
      · simp only [show ((i : Int) < (m : Int)) from by omega, decide_true, cond_true, bnd_nat hi, hg i hi, Option.bind_some, f2]
        by_cases hneg : k < 0
        · rw [decide_eq_true hneg]
          omega
        · rw [decide_eq_false hneg, cond_false, wr1 (by omega)]
          exact hs _ ⟨i + 1, rfl, hi, rfl⟩ (by simp; omega)
      · simp only [show ¬ ((i : Int) < (m : Int)) from by omega, decide_false, cond_false]
theorem mz_PacketS (c : Int) : g_lmarkPacketS ([], c) = some (c, []) ∧ g_lheldPacketS ([], c) = some (c, ()) := by
  constructor
  · show f_lmarkPacketS BIG _ = _
    rw [e_lmarkPacketS]
    exact stopB (([] : List Pk), c) (fun self => rfl) rfl
  · show f_lheldPacketS BIG _ = _
    rw [e_lheldPacketS]
    exact stopB (Sum.inl c) (fun self => rfl) rfl
theorem mz_CallS (c : Int) : g_lmarkCallS ([], c) = some (c, []) ∧ g_lheldCallS ([], c) = some (c, ()) := by
  constructor
  · show f_lmarkCallS BIG _ = _
    rw [e_lmarkCallS]
    exact stopB (([] : List Cl7), c) (fun self => rfl) rfl
  · show f_lheldCallS BIG _ = _
    rw [e_lheldCallS]
    exact stopB (Sum.inl c) (fun self => rfl) rfl
theorem mz_RecS (c : Int) : g_lmarkRecS ([], c) = some (c, []) ∧ g_lheldRecS ([], c) = some (c, ()) := by
  constructor
  · show f_lmarkRecS BIG _ = _
    rw [e_lmarkRecS]
    exact stopB (([] : List Rc), c) (fun self => rfl) rfl
  · show f_lheldRecS BIG _ = _
    rw [e_lheldRecS]
    exact stopB (Sum.inl c) (fun self => rfl) rfl
theorem mh_World0 (n x0 : Int) (x1 : List Int) (x2 : List Ed) (x3 : List (List Int)) (x4 : List Int) (x5 x6 x7 x8 x9 x10 x11 : Int) (x12 : List Ed) (x13 : Int) (x14 : List Sd) (ss : List ShT) (m : Nat) (us : List Bool) (hz : x1.length + x2.length + z_IntSS x3 + x4.length + x12.length + x14.length ≤ 16777216) (hs : z_ShardS ss ≤ 16777216) (hm : m ≤ 1000) (hu : us.length ≤ 16777216) :
    ∃ (W : WoT) (c : Int), g_lmarkWorld ((n, x0, x1, x2, x3, x4, x5, x6, x7, x8, x9, x10, x11, x12, x13, x14, ss, List.replicate m [], us, [], [], []), 1) = some (c, W) ∧ g_lheldWorld (W, 1) = some (c, ()) ∧ 1 ≤ c := by
  obtain ⟨t1, t2, t3, t4, t12, t14, c0, m0, d0, l0, u0⟩ := mh_Head x0 x1 x2 x3 x4 x5 x6 x7 x8 x9 x10 x11 x12 x13 x14 1 (by omega) (by omega) (by omega)
  obtain ⟨ts, c1, m1, d1, l1, u1⟩ := mh_ShardS ss c0 (by omega) (by omega) (by omega)
  obtain ⟨m2, d2⟩ := mh_DiskS0 m c1 (by omega) hm
  obtain ⟨tu, c3, m3, d3, l3, u3⟩ := mh_BoolS us c1 (by omega) (by omega) (by omega)
  obtain ⟨m4, d4⟩ := mz_PacketS c3
  obtain ⟨m5, d5⟩ := mz_CallS c3
  obtain ⟨m6, d6⟩ := mz_RecS c3
  refine ⟨(n, x0, t1, t2, t3, t4, x5, x6, x7, x8, x9, x10, x11, t12, x13, t14, ts, List.replicate m [], tu, [], [], []), c3, ?_, ?_, by omega⟩
  · show f_lmarkWorld BIG _ = _
    rw [e_lmarkWorld]
    dsimp only
    rw [m0, Option.bind_some, m1, Option.bind_some, m2, Option.bind_some, m3, Option.bind_some, m4, Option.bind_some, m5, Option.bind_some, m6, Option.bind_some]
  · have n0 := neg_f (show 1 ≤ c0 from by omega)
    have n1 := neg_f (show 1 ≤ c1 from by omega)
    have n3 := neg_f (show 1 ≤ c3 from by omega)
    show f_lheldWorld BIG _ = _
    rw [e_lheldWorld]
    dsimp only
    rw [d0, Option.bind_some]
    dsimp only
    rw [n0, cond_false, d1, Option.bind_some]
    dsimp only
    rw [n1, cond_false, d2, Option.bind_some]
    dsimp only
    rw [n1, cond_false, d3, Option.bind_some]
    dsimp only
    rw [n3, cond_false, d4, Option.bind_some]
    dsimp only
    rw [n3, cond_false, d5, Option.bind_some]
    dsimp only
    rw [n3, cond_false, d6, Option.bind_some]
    dsimp only
    rw [n3, cond_false]
theorem z_DiskS0 (m : Nat) : z_DiskS (List.replicate m []) = m := by
  unfold z_DiskS
  simp [zFS]
/-- The parts of a new world. -/
theorem wnR_parts (a b : Int) : ∃ (n x0 : Int) (x1 : List Int) (x3 : List (List Int)) (x4 : List Int) (ss : List ShT) (m : Nat) (us : List Bool), (wnR a b).1 = (n, x0, x1, [], x3, x4, 0, 0, 0, 0, 0, 0, 0, [], 0, [], ss, List.replicate m [], us, [], [], []) ∧ x1.length + z_IntSS x3 + x4.length ≤ 1000 ∧ z_ShardS ss ≤ 1000 ∧ m ≤ 1000 ∧ us.length ≤ 1000 := by
  unfold wnR
  split
  · rename_i h
    simp only [Bool.and_eq_true, inB_t] at h
    refine ⟨_, _, _, _, _, _, _, _, rfl, ?_, ?_, by omega, by rw [List.length_replicate]; omega⟩
    · rw [z_repl, lab0_len, ownL_len, List.length_replicate]
      have h3 : b.toNat * a.toNat ≤ 3 * 12 := Nat.mul_le_mul (by omega) (by omega)
      omega
    · rw [z_shN]; omega
  · exact ⟨0, 0, [], [], [], [], 0, [], rfl, by simp [z_IntSS], by simp [z_ShardS], by omega, by simp⟩
theorem law_lFnExactWorldNew (a b : Int) : g_lFnExactWorldNew (a, b) = some (true, ()) := by
  obtain ⟨n, x0, x1, x3, x4, ss, m, us, hW, h1, h2, h3, h4⟩ := wnR_parts a b
  have wi := w_iWorldNew a b
  have ws := w_sWorldNew a b
  rw [hW] at wi ws
  generalize (wnR a b).2 = ok at wi ws
  unfold flW at wi ws
  dsimp only at wi ws
  obtain ⟨W, c, mk, hd, hc⟩ := mh_World0 n x0 x1 [] x3 x4 0 0 0 0 0 0 0 [] 0 [] ss m us (by simp only [List.length_nil]; omega) (by omega) h3 (by omega)
  have he := eq_World n x0 x1 [] x3 x4 0 0 0 0 0 0 0 [] 0 [] ss (List.replicate m []) us [] [] [] (by
    rw [z_DiskS0]
    have e1 : z_PacketS [] = 0 := rfl
    have e2 : z_RecS [] = 0 := rfl
    rw [e1, e2]
    simp only [List.length_nil]; omega)
  show f_lFnExactWorldNew BIG _ = _
  rw [e_lFnExactWorldNew, wi, ws]
  simp only [Option.bind_some, he, Bool.not_true, cond_false, beq_self_eq_true, mk, hd, neg_f hc, decide_true]
end Go.Fw
