/- What the given functions come to. No conditions. -/
import Derived.Test.YthgfbaannligeaaX0
import Derived.IntWalk
set_option linter.unusedVariables false
set_option linter.unusedSimpArgs false
namespace Go.Fw

theorem loop_rel {X B : Type} {F : (X → Option B) → X → Option B} (I : X → Prop) (μ : X → Nat) (Q : X → B → Prop)
    (h : ∀ self x, I x → (∀ y, I y → μ y < μ x → ∃ b, self y = some b ∧ Q y b) → ∃ b, F self x = some b ∧ Q x b) : ∀ {n : Nat} {x : X}, μ x < n → I x → ∃ b, loopT n F x = some b ∧ Q x b
  | 0, _, hn, _ => absurd hn (Nat.not_lt_zero _)
  | n + 1, x, hn, hi => h (it F n) x hi fun _ hy hm => loop_rel I μ Q h (n := n) (by omega) hy
theorem loop_eq {X B : Type} {F : (X → Option B) → X → Option B} (I : X → Prop) (μ : X → Nat) (R : X → B)
    (h : ∀ self x, I x → (∀ y, I y → μ y < μ x → self y = some (R y)) → F self x = some (R x)) {n : Nat} {x : X} (hn : μ x < n) (hi : I x) : loopT n F x = some (R x) := by
  obtain ⟨b, h1, h2⟩ := loop_rel (F := F) I μ (fun x b => b = R x) (fun self x hx hs => ⟨_, h self x hx fun y hy hm => by obtain ⟨b, h1, h2⟩ := hs y hy hm; rw [h1, h2], rfl⟩) hn hi
  rw [h1, h2]
theorem wr {n : Int} (h : -9223372036854775808 ≤ n) (h' : n ≤ 9223372036854775807) : IntKind.wrap .i64 n = n := by
  rw [IntKind.wrap_i64]; omega
theorem wr1 {i : Nat} (h : i < maxLen) : IntKind.wrap .i64 ((i : Int) + 1) = ((i + 1 : Nat) : Int) := by
  have : maxLen = 9223372036854775807 := by decide
  rw [wr (by omega) (by omega)]; rfl
theorem wf64 {n : Int} (h : (Lit.int .i64 n).wf = true) : -9223372036854775808 ≤ n ∧ n ≤ 9223372036854775807 := by
  simpa [Lit.wf, IntKind.min, IntKind.max, IntKind.signed, IntKind.bits] using h
theorem bnd_ok {B : Type} {len : Nat} {i : Int} {k : Nat → Option B} (h : 0 ≤ i) (h' : i < len) : bnd len i k = k i.toNat := by
  unfold bnd
  rw [if_pos ⟨h, by omega⟩]
theorem bnd_nat {B : Type} {len : Nat} {i : Nat} {k : Nat → Option B} (h' : i < len) : bnd len (i : Int) k = k i := by
  rw [bnd_ok (Int.natCast_nonneg i) (by omega)]
  simp
/-- A loop that copies a row. -/
theorem cpLoop {α : Type} (a : List α) (hl : a.length < 18446744073709551616) {z : α} {F : (List α × Int → Option (List α)) → List α × Int → Option (List α)}
    (hF : ∀ self out (i : Nat) y, out.length = a.length → a[i]? = some y → F self (out, (i : Int)) = self (out.set i y, ((i + 1 : Nat) : Int)))
    (hE : ∀ self out, out.length = a.length → F self (out, (a.length : Int)) = some out) : loopT BIG F (List.replicate a.length z, 0) = some a := by
  have := loop_eq (F := F) (fun x => ∃ i : Nat, x.2 = i ∧ i ≤ a.length ∧ x.1.length = a.length ∧ x.1.take i = a.take i) (fun x => a.length - x.2.toNat) (fun _ => a) (fun self x ⟨i, h1, h2, h3, h4⟩ hs => ?_) (n := BIG) (x := (List.replicate a.length z, 0)) (by simp; exact hl) ⟨0, rfl, by simp, by simp, by simp⟩
  · exact this
  · obtain ⟨out, j⟩ := x
    simp only at h1 h2 h3 h4
    subst h1
    by_cases hi : i < a.length
    · rw [hF self out i a[i] h3 (List.getElem?_eq_getElem hi)]
      refine hs _ ⟨i + 1, rfl, hi, by simpa using h3, ?_⟩ (by simp; omega)
      rw [List.take_set, List.take_succ_eq_append_getElem (by omega : i < out.length), List.take_succ_eq_append_getElem hi, h4, List.set_append_right _ _ (by simp; omega)]
      simp [Nat.min_eq_left h2]
    · have : i = a.length := by omega
      subst this
      rw [hE self out h3]
      rw [List.take_of_length_le (by omega), List.take_of_length_le (by omega)] at h4
      rw [h4]
/-- A loop that goes through a row, and is left at the first place where it is told so. -/
theorem allLoop {α B : Type} (a : List α) (hl : a.length < 18446744073709551616) {F : (Int → Option (Unit ⊕ B)) → Int → Option (Unit ⊕ B)} (p : Nat → Bool) (b : B)
    (hF : ∀ self (i : Nat) y, a[i]? = some y → F self (i : Int) = if p i then self ((i + 1 : Nat) : Int) else some (.inr b))
    (hE : ∀ self, F self (a.length : Int) = some (.inl ())) : loopT BIG F 0 = some (if ∀ i, i < a.length → p i = true then .inl () else .inr b) := by
  have hh := loop_rel (F := F) (fun x => ∃ i : Nat, x = i ∧ i ≤ a.length) (fun x => a.length - x.toNat) (fun x r => ((∀ i : Nat, x ≤ (i : Int) → i < a.length → p i = true) ∧ r = .inl ()) ∨ ((∃ i : Nat, i < a.length ∧ p i = false) ∧ r = .inr b)) (fun self x ⟨i, h1, h2⟩ hs => ?_) (n := BIG) (x := 0) (by simp; exact hl) ⟨0, rfl, by simp⟩
  · obtain ⟨r, hr, hq⟩ := hh
    rw [hr]
    congr 1
    rcases hq with ⟨h1, rfl⟩ | ⟨⟨i, h1, h2⟩, rfl⟩
    · rw [if_pos fun i hi => h1 i (by omega) hi]
    · rw [if_neg]
      intro h
      rw [h i h1] at h2; cases h2
  · subst h1
    by_cases hi : i < a.length
    · rw [hF self i a[i] (List.getElem?_eq_getElem hi)]
      cases hp : p i with
      | true =>
        rw [if_pos rfl]
        obtain ⟨r, hr, hq⟩ := hs _ ⟨i + 1, rfl, hi⟩ (by simp; omega)
        refine ⟨r, hr, ?_⟩
        rcases hq with ⟨h1, rfl⟩ | h1
        · refine .inl ⟨fun k hk hk' => ?_, rfl⟩
          by_cases h : k = i
          · subst h; exact hp
          · exact h1 k (by omega) hk'
        · exact .inr h1
      | false => exact ⟨_, rfl, .inr ⟨⟨i, hi, hp⟩, rfl⟩⟩
    · have : i = a.length := by omega
      subst this
      exact ⟨_, hE self, .inl ⟨fun k hk hk' => by omega, rfl⟩⟩
theorem maxLen_lt : maxLen < 18446744073709551616 := by decide
/-- Two rows that are looked at side by side. -/
theorem eqLoop {α B : Type} [DecidableEq α] (a b : List α) (hl : a.length ≤ maxLen) (hab : a.length = b.length) {F : (Int → Option (Unit ⊕ B)) → Int → Option (Unit ⊕ B)} (r : B)
    (hF : ∀ self (i : Nat) x y, a[i]? = some x → b[i]? = some y → F self (i : Int) = if x = y then self ((i + 1 : Nat) : Int) else some (.inr r))
    (hE : ∀ self, F self (a.length : Int) = some (.inl ())) : loopT BIG F 0 = some (if a = b then .inl () else .inr r) := by
  rw [allLoop a (Nat.lt_of_le_of_lt hl maxLen_lt) (fun i => decide (a[i]? = b[i]?)) r (fun self i y hy => ?_) hE]
  · congr 1
    by_cases h : a = b
    · subst h; simp
    · rw [if_neg h, if_neg]
      intro h'
      apply h
      apply List.ext_getElem? fun i => ?_
      by_cases hi : i < a.length
      · simpa using h' i hi
      · rw [List.getElem?_eq_none (by omega), List.getElem?_eq_none (by omega)]
  · have hi := (List.getElem?_eq_some_iff.1 hy).1
    have hb : b[i]? = some (b[i]'(by omega)) := List.getElem?_eq_getElem (by omega)
    rw [hF self i y _ hy hb, hy, hb]
    simp
/-- A loop that goes through a row and keeps an account. -/
theorem foldLoop {α S B : Type} (a : List α) (hl : a.length < 18446744073709551616) {F : (S × Int → Option B) → S × Int → Option B} (I : Nat → S → Prop) (st : S → α → S) (R : S → B) {s0 : S} (h0 : I 0 s0)
    (hI : ∀ i s y, a[i]? = some y → I i s → I (i + 1) (st s y)) (hF : ∀ self s (i : Nat) y, a[i]? = some y → I i s → F self (s, (i : Int)) = self (st s y, ((i + 1 : Nat) : Int)))
    (hE : ∀ self s, I a.length s → F self (s, (a.length : Int)) = some (R s)) : loopT BIG F (s0, 0) = some (R (a.foldl st s0)) := by
  have := loop_eq (F := F) (fun x => ∃ i : Nat, x.2 = i ∧ i ≤ a.length ∧ I i x.1) (fun x => a.length - x.2.toNat) (fun x => R ((a.drop x.2.toNat).foldl st x.1)) (fun self x ⟨i, h1, h2, h3⟩ hs => ?_) (n := BIG) (x := (s0, 0)) (by simp; exact hl) ⟨0, rfl, by simp, h0⟩
  · simpa using this
  · obtain ⟨s, j⟩ := x
    simp only at h1 h2 h3
    subst h1
    by_cases hi : i < a.length
    · have hy := List.getElem?_eq_getElem hi
      rw [hF self s i a[i] hy h3, hs _ ⟨i + 1, rfl, hi, hI _ _ _ hy h3⟩ (by simp; omega)]
      simp only [Int.toNat_natCast]
      rw [List.drop_eq_getElem_cons hi, List.foldl_cons]
    · have : i = a.length := by omega
      subst this
      rw [hE self s h3]
      simp
theorem set_take_drop {α : Type} {a t : List α} {i : Nat} {z : α} (ht : t.length = a.length) (hi : i < a.length) (hz : t[i]? = some z) : (t.take i ++ a.drop i).set i z = t.take (i + 1) ++ a.drop (i + 1) := by
  have hi' : i < t.length := by omega
  rw [List.getElem?_eq_getElem hi', Option.some.injEq] at hz
  subst hz
  rw [List.set_append_right _ _ (by simp; omega), List.drop_eq_getElem_cons hi, show i - (t.take i).length = 0 from by simp; omega, List.set_cons_zero, List.take_succ_eq_append_getElem hi', List.append_assoc]
  rfl
/-- A row bears marks that go from a number to a number. -/
def HdL {α : Type} (hd : Int → α → Int → Prop) : Int → List α → Int → Prop
  | k, [], k' => k' = k
  | k, z :: t, k' => ∃ k1, hd k z k1 ∧ HdL hd k1 t k'
theorem HdL.snoc {α : Type} {hd : Int → α → Int → Prop} : ∀ {t : List α} {k k1 k2 : Int} {z : α}, HdL hd k t k1 → hd k1 z k2 → HdL hd k (t ++ [z]) k2
  | [], _, _, _, _, h, h' => by cases h; exact ⟨_, h', rfl⟩
  | _ :: _, _, _, _, _, ⟨k3, h1, h2⟩, h' => ⟨k3, h1, h2.snoc h'⟩
/-- A loop that marks each of a row. -/
theorem mkLoop {α : Type} (hd : Int → α → Int → Prop) (C : Int) (hC : 0 ≤ C) (a : List α) (k0 : Int) (hl : a.length < 18446744073709551616)
    {F : (List α × Int × Int → Option (List α × Int)) → List α × Int × Int → Option (List α × Int)}
    (hF : ∀ self out (i : Nat) (k : Int) y, i < a.length → out.length = a.length → out[i]? = some y → a[i]? = some y → k0 ≤ k → k ≤ k0 + C * i →
      ∃ z k', hd k z k' ∧ k ≤ k' ∧ k' ≤ k + C ∧ F self (out, k, (i : Int)) = self (out.set i z, k', ((i + 1 : Nat) : Int)))
    (hE : ∀ self out k, out.length = a.length → F self (out, k, (a.length : Int)) = some (out, k)) :
    ∃ t k', loopT BIG F (a, k0, 0) = some (t, k') ∧ HdL hd k0 t k' ∧ t.length = a.length ∧ k0 ≤ k' ∧ k' ≤ k0 + C * a.length := by
  have := loop_rel (F := F) (fun x => ∃ (i : Nat) (t : List α), x.2.2 = i ∧ i ≤ a.length ∧ t.length = i ∧ x.1 = t ++ a.drop i ∧ HdL hd k0 t x.2.1 ∧ k0 ≤ x.2.1 ∧ x.2.1 ≤ k0 + C * i) (fun x => a.length - x.2.2.toNat)
    (fun _ r => HdL hd k0 r.1 r.2 ∧ r.1.length = a.length ∧ k0 ≤ r.2 ∧ r.2 ≤ k0 + C * a.length) (fun self x ⟨i, t, h1, h2, h3, h4, h5, h6, h7⟩ hs => ?_) (n := BIG) (x := (a, k0, 0)) (by simp; exact hl)
    ⟨0, [], rfl, by simp, rfl, by simp, rfl, Int.le_refl _, by simp⟩
  · obtain ⟨⟨t, k'⟩, h1, h2⟩ := this
    exact ⟨t, k', h1, h2⟩
  · obtain ⟨out, k, j⟩ := x
    simp only at h1 h4 h5 h6 h7
    subst h1 h3
    have hlen : out.length = a.length := by rw [h4]; simp; omega
    by_cases hi : t.length < a.length
    · have hy := List.getElem?_eq_getElem hi
      have ho : out[t.length]? = a[t.length]? := by rw [h4, List.getElem?_append_right (Nat.le_refl _)]; simp
      obtain ⟨z, k', g1, g2, g3, g4⟩ := hF self out t.length k _ hi hlen (by rw [ho, hy]) hy h6 h7
      rw [g4]
      have e : out.set t.length z = (t ++ [z]) ++ a.drop (t.length + 1) := by
        rw [h4, List.set_append_right _ _ (Nat.le_refl _), Nat.sub_self, List.drop_eq_getElem_cons hi, List.set_cons_zero, List.append_assoc]
        rfl
      have hm : C * ((t.length + 1 : Nat) : Int) = C * (t.length : Int) + C := by rw [Int.natCast_add, Int.mul_add]; simp
      exact hs _ ⟨t.length + 1, t ++ [z], rfl, hi, by simp, e, h5.snoc g1, by simp only; omega, by simp only; omega⟩ (by simp only [Int.toNat_natCast]; omega)
    · have hi' : t.length = a.length := by omega
      rw [hi', hE self out k hlen]
      rw [hi', List.drop_length, List.append_nil] at h4
      subst h4
      exact ⟨_, rfl, h5, hi', h6, by rw [← hi']; exact h7⟩
/-- A loop that holds a row against its marks. -/
theorem hdLoop {α B : Type} (hd : Int → α → Int → Prop) (a : List α) (k0 k9 : Int) (hl : a.length < 18446744073709551616) (h : HdL hd k0 a k9)
    {F : (Int × Int → Option (Int ⊕ B)) → Int × Int → Option (Int ⊕ B)}
    (hF : ∀ self (i : Nat) (k k' : Int) z, a[i]? = some z → hd k z k' → F self (k, (i : Int)) = self (k', ((i + 1 : Nat) : Int)))
    (hE : ∀ self k, F self (k, (a.length : Int)) = some (.inl k)) : loopT BIG F (k0, 0) = some (.inl k9) := by
  have := loop_eq (F := F) (fun x => ∃ i : Nat, x.2 = i ∧ i ≤ a.length ∧ HdL hd x.1 (a.drop i) k9) (fun x => a.length - x.2.toNat) (fun _ => .inl k9) (fun self x ⟨i, h1, h2, h3⟩ hs => ?_) (n := BIG) (x := (k0, 0)) (by simp; exact hl) ⟨0, rfl, by simp, by simpa using h⟩
  · exact this
  · obtain ⟨k, j⟩ := x
    simp only at h1 h3
    subst h1
    by_cases hi : i < a.length
    · rw [List.drop_eq_getElem_cons hi] at h3
      obtain ⟨k1, g1, g2⟩ := h3
      rw [hF self i k k1 _ (List.getElem?_eq_getElem hi) g1]
      exact hs _ ⟨i + 1, rfl, hi, g2⟩ (by simp; omega)
    · have : i = a.length := by omega
      subst this
      rw [List.drop_length] at h3
      cases h3
      exact hE self _
/-- Two vertices hang together by edges. -/
inductive Con (E : List (Int × Int)) : Int → Int → Prop
  | refl (v : Int) : Con E v v
  | fwd {u v w : Int} : Con E u v → (v, w) ∈ E → Con E u w
  | bwd {u v w : Int} : Con E u v → (w, v) ∈ E → Con E u w
theorem Con.trans {E : List (Int × Int)} {u v w : Int} (h : Con E u v) (h' : Con E v w) : Con E u w := by
  induction h' with
  | refl => exact h
  | fwd _ he ih => exact .fwd ih he
  | bwd _ he ih => exact .bwd ih he
theorem Con.symm {E : List (Int × Int)} {u v : Int} (h : Con E u v) : Con E v u := by
  induction h with
  | refl => exact .refl _
  | fwd _ he ih => exact Con.trans (.bwd (.refl _) he) ih
  | bwd _ he ih => exact Con.trans (.fwd (.refl _) he) ih
theorem Con.mono {E E' : List (Int × Int)} (hE : ∀ e, e ∈ E → e ∈ E') {u v : Int} (h : Con E u v) : Con E' u v := by
  induction h with
  | refl => exact .refl _
  | fwd _ he ih => exact .fwd ih (hE _ he)
  | bwd _ he ih => exact .bwd ih (hE _ he)
theorem Con.of {E : List (Int × Int)} {u v : Int} (h : (u, v) ∈ E) : Con E u v := .fwd (.refl _) h
theorem Con.nil {u v : Int} (h : Con [] u v) : u = v := by
  induction h with
  | refl => rfl
  | fwd _ he _ => cases he
  | bwd _ he _ => cases he
theorem Con.snoc {E : List (Int × Int)} {a b u v : Int} : Con (E ++ [(a, b)]) u v ↔ Con E u v ∨ (Con E u a ∧ Con E b v) ∨ (Con E u b ∧ Con E a v) := by
  constructor
  · intro h
    induction h with
    | refl => exact .inl (.refl _)
    | fwd _ he ih =>
      rcases List.mem_append.1 he with h1 | h1
      · rcases ih with h | ⟨h, h'⟩ | ⟨h, h'⟩
        · exact .inl (.fwd h h1)
        · exact .inr (.inl ⟨h, .fwd h' h1⟩)
        · exact .inr (.inr ⟨h, .fwd h' h1⟩)
      · cases List.mem_singleton.1 h1
        rcases ih with h | ⟨h, h'⟩ | ⟨h, h'⟩
        · exact .inr (.inl ⟨h, .refl _⟩)
        · exact .inr (.inl ⟨h, .refl _⟩)
        · exact .inl h
    | bwd _ he ih =>
      rcases List.mem_append.1 he with h1 | h1
      · rcases ih with h | ⟨h, h'⟩ | ⟨h, h'⟩
        · exact .inl (.bwd h h1)
        · exact .inr (.inl ⟨h, .bwd h' h1⟩)
        · exact .inr (.inr ⟨h, .bwd h' h1⟩)
      · cases List.mem_singleton.1 h1
        rcases ih with h | ⟨h, h'⟩ | ⟨h, h'⟩
        · exact .inr (.inr ⟨h, .refl _⟩)
        · exact .inl h
        · exact .inr (.inr ⟨h, .refl _⟩)
  · have hm : ∀ {x y : Int}, Con E x y → Con (E ++ [(a, b)]) x y := fun h => h.mono fun e he => List.mem_append_left _ he
    have hab : Con (E ++ [(a, b)]) a b := .of (List.mem_append_right _ (List.mem_singleton.2 rfl))
    rintro (h | ⟨h, h'⟩ | ⟨h, h'⟩)
    · exact hm h
    · exact (hm h).trans (hab.trans (hm h'))
    · exact (hm h).trans (hab.symm.trans (hm h'))
/-- Edges of so many vertices. -/
def EIn (n : Nat) (E : List (Int × Int)) : Prop := ∀ e, e ∈ E → 0 ≤ e.1 ∧ e.1 < n ∧ 0 ≤ e.2 ∧ e.2 < n
theorem Con.range {n : Nat} {E : List (Int × Int)} (hE : EIn n E) {u v : Int} (h : Con E u v) (hu : 0 ≤ u ∧ u < n) : 0 ≤ v ∧ v < n := by
  induction h with
  | refl => exact hu
  | fwd _ he _ => exact ⟨(hE _ he).2.2.1, (hE _ he).2.2.2⟩
  | bwd _ he _ => exact ⟨(hE _ he).1, (hE _ he).2.1⟩
/-- Labels: to each vertex the least one that it hangs together with. -/
def Lab (n : Nat) (E : List (Int × Int)) (l : List Int) : Prop :=
  l.length = n ∧ ∀ (v : Nat) (x : Int), l[v]? = some x → Con E v x ∧ 0 ≤ x ∧ ∀ u : Int, 0 ≤ u → Con E v u → x ≤ u
theorem Lab.le {n : Nat} {E : List (Int × Int)} {l : List Int} (h : Lab n E l) {v : Nat} {x : Int} (hx : l[v]? = some x) : x ≤ v :=
  (h.2 v x hx).2.2 v (Int.natCast_nonneg v) (.refl _)
theorem Lab.lt {n : Nat} {E : List (Int × Int)} {l : List Int} (h : Lab n E l) {v : Nat} {x : Int} (hx : l[v]? = some x) : 0 ≤ x ∧ x < n := by
  have h1 := h.le hx
  have h2 := (List.getElem?_eq_some_iff.1 hx).1
  have h3 := (h.2 v x hx).2.1
  have h4 := h.1
  omega
theorem Lab.iff {n : Nat} {E : List (Int × Int)} {l : List Int} (h : Lab n E l) {u v : Nat} {x y : Int} (hx : l[u]? = some x) (hy : l[v]? = some y) : x = y ↔ Con E u v := by
  have h1 := h.2 u x hx
  have h2 := h.2 v y hy
  constructor
  · intro e
    subst e
    exact h1.1.trans h2.1.symm
  · intro c
    have a := h1.2.2 y h2.2.1 (c.trans h2.1)
    have b := h2.2.2 x h1.2.1 (c.symm.trans h1.1)
    omega
/-- A label is its own label. -/
theorem Lab.self {n : Nat} {E : List (Int × Int)} {l : List Int} (h : Lab n E l) {v : Nat} {x : Int} (hx : l[v]? = some x) : l[x.toNat]? = some x := by
  have h1 := h.lt hx
  have hi : x.toNat < l.length := by rw [h.1]; omega
  rw [List.getElem?_eq_getElem hi]
  have h2 := h.2 v x hx
  have hc : Con E (x.toNat : Int) v := by rw [Int.toNat_of_nonneg h1.1]; exact h2.1.symm
  rw [(h.iff (List.getElem?_eq_getElem hi) hx).2 hc]
/-- Labels without edges. -/
def lab0 (n : Nat) : List Int := (List.range n).map fun (i : Nat) => (i : Int)
theorem lab0_get {n v : Nat} {x : Int} (h : (lab0 n)[v]? = some x) : v < n ∧ x = v := by
  have hi := (List.getElem?_eq_some_iff.1 h).1
  simp only [lab0, List.length_map, List.length_range] at hi
  simp only [lab0, List.getElem?_map, List.getElem?_range hi, Option.map_some, Option.some.injEq] at h
  exact ⟨hi, h.symm⟩
theorem lab0_len (n : Nat) : (lab0 n).length = n := by simp [lab0]
theorem Lab.zero (n : Nat) : Lab n [] (lab0 n) := by
  refine ⟨lab0_len n, fun v x h => ?_⟩
  obtain ⟨_, rfl⟩ := lab0_get h
  exact ⟨.refl _, Int.natCast_nonneg v, fun u _ h => by rw [h.nil]; exact Int.le_refl _⟩
/-- Two labels made one. -/
def unL (l : List Int) (x y : Int) : List Int := l.map fun z => if z = (if y > x then y else x) then (if y < x then y else x) else z
theorem unL_len (l : List Int) (x y : Int) : (unL l x y).length = l.length := by simp [unL]
theorem unL_same (l : List Int) (x : Int) : unL l x x = l := by
  unfold unL
  conv => rhs; rw [← List.map_id l]
  apply List.map_congr_left
  intro z _
  simp only [gt_iff_lt, Int.lt_irrefl, if_false, id]
  split <;> simp_all
theorem Lab.union {n : Nat} {E : List (Int × Int)} {l : List Int} (h : Lab n E l) {a b : Nat} {x y : Int} (hx : l[a]? = some x) (hy : l[b]? = some y) : Lab n (E ++ [((a : Int), (b : Int))]) (unL l x y) := by
  refine ⟨by rw [unL_len, h.1], fun v z hz => ?_⟩
  simp only [unL, List.getElem?_map, Option.map_eq_some_iff] at hz
  obtain ⟨w, hw, hz⟩ := hz
  have hax := h.2 a x hx
  have hby := h.2 b y hy
  have hvw := h.2 v w hw
  have ew : ∀ {c : Nat} {t : Int}, l[c]? = some t → (w = t ↔ Con E v c) := fun hc => h.iff hw hc
  have hA := ew hx
  have hB := ew hy
  have hab : Con (E ++ [((a : Int), (b : Int))]) a b := .of (List.mem_append_right _ (List.mem_singleton.2 rfl))
  have hm : ∀ {s t : Int}, Con E s t → Con (E ++ [((a : Int), (b : Int))]) s t := fun h => h.mono fun e he => List.mem_append_left _ he
  by_cases hxy : x = y
  · subst hxy
    have hcab : Con E a b := (h.iff hx hy).1 rfl
    have : z = w := by
      subst hz
      simp only [gt_iff_lt, Int.lt_irrefl, if_false]
      split <;> simp_all
    subst this
    refine ⟨hm hvw.1, hvw.2.1, fun u hu hc => ?_⟩
    apply hvw.2.2 u hu
    rcases Con.snoc.1 hc with h1 | ⟨h1, h2⟩ | ⟨h1, h2⟩
    · exact h1
    · exact h1.trans (hcab.trans h2)
    · exact h1.trans (hcab.symm.trans h2)
  · have key : ∀ u : Int, 0 ≤ u → Con (E ++ [((a : Int), (b : Int))]) v u → (w ≤ u) ∨ (w = x ∧ y ≤ u) ∨ (w = y ∧ x ≤ u) := by
      intro u hu hc
      rcases Con.snoc.1 hc with h1 | ⟨h1, h2⟩ | ⟨h1, h2⟩
      · exact .inl (hvw.2.2 u hu h1)
      · exact .inr (.inl ⟨hA.2 h1, hby.2.2 u hu h2⟩)
      · exact .inr (.inr ⟨hB.2 h1, hax.2.2 u hu h2⟩)
    by_cases hwx : w = x
    · have hva := hA.1 hwx
      subst hwx
      by_cases hlt : y > w
      · rw [if_pos hlt, if_neg (by omega)] at hz
        subst hz
        refine ⟨hm hvw.1, hvw.2.1, fun u hu hc => ?_⟩
        rcases key u hu hc with h1 | h1 | h1 <;> omega
      · rw [if_neg hlt, if_pos rfl, if_pos (by omega)] at hz
        subst hz
        refine ⟨(hm hva).trans (hab.trans (hm hby.1)), hby.2.1, fun u hu hc => ?_⟩
        rcases key u hu hc with h1 | h1 | h1 <;> omega
    · by_cases hwy : w = y
      · have hvb := hB.1 hwy
        subst hwy
        by_cases hlt : w > x
        · rw [if_pos hlt, if_pos rfl, if_neg (by omega)] at hz
          subst hz
          refine ⟨(hm hvb).trans (hab.symm.trans (hm hax.1)), hax.2.1, fun u hu hc => ?_⟩
          rcases key u hu hc with h1 | h1 | h1 <;> omega
        · rw [if_neg hlt, if_neg hwx] at hz
          subst hz
          refine ⟨hm hvw.1, hvw.2.1, fun u hu hc => ?_⟩
          rcases key u hu hc with h1 | h1 | h1 <;> omega
      · rw [if_neg (by split <;> omega)] at hz
        subst hz
        refine ⟨hm hvw.1, hvw.2.1, fun u hu hc => ?_⟩
        rcases key u hu hc with h1 | h1 | h1 <;> omega
/-- One edge's part in the labels. -/
def unE (l : List Int) (e : Int × Int) : List Int := unL l (l.getD e.1.toNat 0) (l.getD e.2.toNat 0)
theorem unE_len (l : List Int) (e : Int × Int) : (unE l e).length = l.length := unL_len _ _ _
theorem Lab.unE {n : Nat} {E : List (Int × Int)} {l : List Int} (h : Lab n E l) {e : Int × Int} (he : 0 ≤ e.1 ∧ e.1 < n ∧ 0 ≤ e.2 ∧ e.2 < n) : Lab n (E ++ [e]) (unE l e) := by
  have h1 : e.1.toNat < l.length := by rw [h.1]; omega
  have h2 : e.2.toNat < l.length := by rw [h.1]; omega
  have := h.union (a := e.1.toNat) (b := e.2.toNat) (List.getElem?_eq_getElem h1) (List.getElem?_eq_getElem h2)
  rw [Int.toNat_of_nonneg he.1, Int.toNat_of_nonneg he.2.2.1] at this
  unfold Go.Fw.unE
  rw [List.getD_eq_getElem?_getD, List.getD_eq_getElem?_getD, List.getElem?_eq_getElem h1, List.getElem?_eq_getElem h2]
  exact this
theorem Lab.fold {n : Nat} : ∀ {D E : List (Int × Int)} {l : List Int}, Lab n E l → EIn n D → Lab n (E ++ D) (D.foldl Go.Fw.unE l)
  | [], E, l, h, _ => by simpa using h
  | e :: D, E, l, h, hD => by
    have := Lab.fold (D := D) (h.unE (hD e (List.mem_cons_self ..))) fun x hx => hD x (List.mem_cons_of_mem _ hx)
    rw [List.foldl_cons]
    rwa [List.append_assoc] at this
/-- The labels by edges. -/
def labs (n : Nat) (E : List (Int × Int)) : List Int := E.foldl unE (lab0 n)
theorem labs_ok {n : Nat} {E : List (Int × Int)} (h : EIn n E) : Lab n E (labs n E) := by
  have := (Lab.zero n).fold h
  simpa [labs] using this
theorem labs_len (n : Nat) (E : List (Int × Int)) : (labs n E).length = n := by
  have : ∀ (E : List (Int × Int)) (l : List Int), (E.foldl unE l).length = l.length := by
    intro E
    induction E with
    | nil => simp
    | cons e E ih => intro l; rw [List.foldl_cons, ih, unE_len]
  rw [labs, this, lab0_len]
/-- One edge's part in a round of labels that are made less and less. -/
def rlE (l : List Int) (e : Int × Int) : List Int :=
  let x := l.getD e.1.toNat 0
  let y := l.getD e.2.toNat 0
  let l := if x < y then l.set e.2.toNat x else l
  if y < x then l.set e.1.toNat y else l
theorem rlE_len (l : List Int) (e : Int × Int) : (rlE l e).length = l.length := by
  unfold rlE; simp only; split <;> split <;> simp
def lrnd (E : List (Int × Int)) (l : List Int) : List Int := E.foldl rlE l
theorem lrnd_len : ∀ (E : List (Int × Int)) (l : List Int), (lrnd E l).length = l.length
  | [], l => rfl
  | e :: E, l => by show (lrnd E (rlE l e)).length = _; rw [lrnd_len E, rlE_len]
section
variable {n : Nat} {E : List (Int × Int)} {L : List Int}
/-- On the way down to the labels. -/
def Dn (n : Nat) (E : List (Int × Int)) (l : List Int) : Prop := l.length = n ∧ ∀ (v : Nat) (x : Int), l[v]? = some x → Con E v x ∧ 0 ≤ x
theorem Dn.ge (hL : Lab n E L) {l : List Int} (h : Dn n E l) {v : Nat} {x y : Int} (hx : l[v]? = some x) (hy : L[v]? = some y) : y ≤ x :=
  (hL.2 v y hy).2.2 x (h.2 v x hx).2 (h.2 v x hx).1
theorem Dn.set {l : List Int} (h : Dn n E l) {v : Nat} {x : Int} (hc : Con E v x) (h0 : 0 ≤ x) : Dn n E (l.set v x) := by
  refine ⟨by simp [h.1], fun u y hu => ?_⟩
  rw [List.getElem?_set] at hu
  split at hu
  · subst v
    split at hu
    · cases hu; exact ⟨hc, h0⟩
    · cases hu
  · exact h.2 u y hu
theorem getD_at {l : List Int} {i : Nat} (h : i < l.length) : l[i]? = some (l.getD i 0) := by
  rw [List.getD_eq_getElem?_getD, List.getElem?_eq_getElem h]; rfl
/-- What an edge's part does. -/
theorem Dn.rlE (hL : Lab n E L) {l : List Int} (h : Dn n E l) {e : Int × Int} (hm : e ∈ E) (he : 0 ≤ e.1 ∧ e.1 < n ∧ 0 ≤ e.2 ∧ e.2 < n) :
    Dn n E (rlE l e) ∧ (∀ (v : Nat), (rlE l e).getD v 0 ≤ l.getD v 0) ∧
    (l.getD e.1.toNat 0 = L.getD e.1.toNat 0 → (rlE l e).getD e.2.toNat 0 = L.getD e.2.toNat 0) ∧
    (l.getD e.2.toNat 0 = L.getD e.2.toNat 0 → (rlE l e).getD e.1.toNat 0 = L.getD e.1.toNat 0) := by
  obtain ⟨h1, h2, h3, h4⟩ := he
  have i1 : e.1.toNat < l.length := by rw [h.1]; omega
  have i2 : e.2.toNat < l.length := by rw [h.1]; omega
  have j1 : e.1.toNat < L.length := by rw [hL.1]; omega
  have j2 : e.2.toNat < L.length := by rw [hL.1]; omega
  have c12 : Con E (e.1.toNat : Int) (e.2.toNat : Int) := by
    rw [Int.toNat_of_nonneg h1, Int.toNat_of_nonneg h3]; exact .of hm
  have hLe := (hL.iff (getD_at j1) (getD_at j2)).2 c12
  have a1 := h.2 _ _ (getD_at i1)
  have a2 := h.2 _ _ (getD_at i2)
  have g1 := h.ge hL (getD_at i1) (getD_at j1)
  have g2 := h.ge hL (getD_at i2) (getD_at j2)
  have gs : ∀ (i : Nat) (z : Int) (v : Nat), i < l.length → (l.set i z).getD v 0 = if i = v then z else l.getD v 0 := by
    intro i z v hi
    rw [List.getD_eq_getElem?_getD, List.getElem?_set]
    split
    · subst v; simp
    · rw [List.getD_eq_getElem?_getD]
  unfold Go.Fw.rlE
  simp only
  by_cases hlt : l.getD e.1.toNat 0 < l.getD e.2.toNat 0
  · rw [if_pos hlt, if_neg (by omega)]
    refine ⟨h.set (c12.symm.trans a1.1) a1.2, fun v => ?_, fun hd => ?_, fun hd => ?_⟩
    · rw [gs _ _ _ i2]
      split
      · subst v; omega
      · exact Int.le_refl _
    · rw [gs _ _ _ i2, if_pos rfl]; omega
    · omega
  · rw [if_neg hlt]
    by_cases hgt : l.getD e.2.toNat 0 < l.getD e.1.toNat 0
    · rw [if_pos hgt]
      refine ⟨h.set (c12.trans a2.1) a2.2, fun v => ?_, fun hd => ?_, fun hd => ?_⟩
      · rw [gs _ _ _ i1]
        split
        · subst v; omega
        · exact Int.le_refl _
      · omega
      · rw [gs _ _ _ i1, if_pos rfl]; omega
    · rw [if_neg hgt]
      refine ⟨h, fun v => Int.le_refl _, fun hd => ?_, fun hd => ?_⟩ <;> omega
theorem Dn.rnd (hL : Lab n E L) (hE : EIn n E) : ∀ (D : List (Int × Int)) (l : List Int), (∀ e, e ∈ D → e ∈ E) → Dn n E l →
    Dn n E (lrnd D l) ∧ (∀ v : Nat, (lrnd D l).getD v 0 ≤ l.getD v 0) ∧
    ∀ e, e ∈ D → (l.getD e.1.toNat 0 = L.getD e.1.toNat 0 → (lrnd D l).getD e.2.toNat 0 = L.getD e.2.toNat 0) ∧ (l.getD e.2.toNat 0 = L.getD e.2.toNat 0 → (lrnd D l).getD e.1.toNat 0 = L.getD e.1.toNat 0)
  | [], l, _, h => ⟨h, fun v => Int.le_refl _, fun e he => by cases he⟩
  | e :: D, l, hs, h => by
    have hm := hs e (List.mem_cons_self ..)
    obtain ⟨h1, h2, h3, h4⟩ := h.rlE hL hm (hE e hm)
    obtain ⟨k1, k2, k3⟩ := Dn.rnd hL hE D (Go.Fw.rlE l e) (fun x hx => hs x (List.mem_cons_of_mem _ hx)) h1
    -- what is done stays done
    have dn : ∀ {l' : List Int} (v : Nat), v < n → Dn n E l' → (∀ u : Nat, l'.getD u 0 ≤ l.getD u 0) → l.getD v 0 = L.getD v 0 → l'.getD v 0 = L.getD v 0 := by
      intro l' v hv hl' hle hd
      have hg := hl'.ge hL (getD_at (l := l') (i := v) (by rw [hl'.1]; exact hv)) (getD_at (l := L) (i := v) (by rw [hL.1]; exact hv))
      have := hle v
      omega
    have dn' : ∀ (v : Nat), v < n → (Go.Fw.rlE l e).getD v 0 = L.getD v 0 → (Go.Fw.lrnd D (Go.Fw.rlE l e)).getD v 0 = L.getD v 0 := by
      intro v hv hd
      have hg := k1.ge hL (getD_at (i := v) (by rw [k1.1]; exact hv)) (getD_at (l := L) (i := v) (by rw [hL.1]; exact hv))
      have := k2 v
      omega
    refine ⟨k1, fun v => Int.le_trans (k2 v) (h2 v), fun e' he' => ?_⟩
    rcases List.mem_cons.1 he' with rfl | he'
    · have hb := hE _ hm
      exact ⟨fun hd => dn' _ (by omega) (h3 hd), fun hd => dn' _ (by omega) (h4 hd)⟩
    · have hb := hE _ (hs e' (List.mem_cons_of_mem _ he'))
      exact ⟨fun hd => (k3 e' he').1 (dn _ (by omega) h1 h2 hd), fun hd => (k3 e' he').2 (dn _ (by omega) h1 h2 hd)⟩
/-- How many vertices have their label. -/
def cntD (n : Nat) (L l : List Int) : Nat := (List.range n).countP fun v => decide (l.getD v 0 = L.getD v 0)
theorem countP_lt {p q : Nat → Bool} : ∀ {m : List Nat}, (∀ x, x ∈ m → p x = true → q x = true) → (∃ x, x ∈ m ∧ p x = false ∧ q x = true) → m.countP p < m.countP q
  | [], _, ⟨x, hx, _⟩ => by cases hx
  | a :: m, h, ⟨x, hx, hp, hq⟩ => by
    rw [List.countP_cons, List.countP_cons]
    have hle : m.countP p ≤ m.countP q := List.countP_mono_left fun y hy => h y (List.mem_cons_of_mem _ hy)
    rcases List.mem_cons.1 hx with rfl | hx
    · rw [if_neg (by simp [hp]), if_pos hq]; omega
    · have := countP_lt (fun y hy => h y (List.mem_cons_of_mem _ hy)) ⟨x, hx, hp, hq⟩
      have ha := h a (List.mem_cons_self ..)
      cases hpa : p a with
      | true => rw [ha hpa]; simp; omega
      | false => cases hqa : q a <;> simp <;> omega
theorem con_step {D : Int → Prop} {u v : Int} (h : Con E u v) (hu : D u) (hv : ¬ D v) : ∃ x y : Int, D x ∧ ¬ D y ∧ ((x, y) ∈ E ∨ (y, x) ∈ E) := by
  induction h with
  | refl => exact absurd hu hv
  | @fwd a b _ he ih =>
    by_cases hb : D a
    · exact ⟨_, _, hb, hv, .inl he⟩
    · exact ih hb
  | @bwd a b _ he ih =>
    by_cases hb : D a
    · exact ⟨_, _, hb, hv, .inr he⟩
    · exact ih hb
def lrnds (E : List (Int × Int)) : Nat → List Int → List Int
  | 0, l => l
  | k + 1, l => lrnds E k (Go.Fw.lrnd E l)
/-- A round that does not end it makes one more vertex right. -/
theorem lrnd_more (hL : Lab n E L) (hE : EIn n E) {l : List Int} (h : Dn n E l) (hs : ∀ v : Nat, v < n → L.getD v 0 = v → l.getD v 0 = v) (hne : l ≠ L) :
    cntD n L l < cntD n L (Go.Fw.lrnd E l) := by
  obtain ⟨k1, k2, k3⟩ := Dn.rnd hL hE E l (fun _ h => h) h
  have stay : ∀ v : Nat, v < n → l.getD v 0 = L.getD v 0 → (Go.Fw.lrnd E l).getD v 0 = L.getD v 0 := by
    intro v hv hd
    have hg := k1.ge hL (getD_at (i := v) (by rw [k1.1]; exact hv)) (getD_at (l := L) (i := v) (by rw [hL.1]; exact hv))
    have := k2 v
    omega
  have : ∃ v : Nat, v < n ∧ l.getD v 0 ≠ L.getD v 0 := by
    apply Classical.byContradiction
    intro hn
    apply hne
    apply List.ext_getElem?
    intro i
    by_cases hi : i < n
    · rw [getD_at (l := l) (i := i) (by rw [h.1]; exact hi), getD_at (l := L) (i := i) (by rw [hL.1]; exact hi)]
      congr 1
      exact Classical.byContradiction fun hc => hn ⟨i, hi, hc⟩
    · rw [List.getElem?_eq_none (by rw [h.1]; omega), List.getElem?_eq_none (by rw [hL.1]; omega)]
  obtain ⟨v, hv, hnd⟩ := this
  have gL := getD_at (l := L) (i := v) (by rw [hL.1]; exact hv)
  have hm := hL.lt gL
  have hself := hL.self gL
  have hcon := (hL.2 v _ gL).1
  obtain ⟨x, y, hx, hy, he⟩ := con_step (D := fun z : Int => 0 ≤ z ∧ z < n ∧ l.getD z.toNat 0 = L.getD z.toNat 0) hcon.symm
    ⟨hm.1, hm.2, by
      have e1 : L.getD (L.getD v 0).toNat 0 = L.getD v 0 := by rw [List.getD_eq_getElem?_getD (i := (L.getD v 0).toNat), hself]; rfl
      rw [e1, hs (L.getD v 0).toNat (by omega) (by rw [e1]; omega)]; omega⟩
    (fun hd => hnd (by simpa using hd.2.2))
  refine countP_lt (fun z hz hp => ?_) ⟨y.toNat, ?_, ?_, ?_⟩
  · simp only [decide_eq_true_eq] at hp ⊢
    exact stay z (List.mem_range.1 hz) hp
  · rw [List.mem_range]
    rcases he with he | he <;> have := hE _ he <;> simp only at this <;> omega
  · simp only [decide_eq_false_iff_not]
    intro hd
    apply hy
    rcases he with he | he <;> have := hE _ he <;> simp only at this <;> exact ⟨by omega, by omega, hd⟩
  · simp only [decide_eq_true_eq]
    rcases he with he | he
    · exact (k3 _ he).1 hx.2.2
    · exact (k3 _ he).2 hx.2.2
theorem lrnds_end (hL : Lab n E L) (hE : EIn n E) : ∀ (k : Nat) (l : List Int), Dn n E l → (∀ v : Nat, v < n → L.getD v 0 = v → l.getD v 0 = v) → n ≤ cntD n L l + k → lrnds E k l = L
  | 0, l, h, hs, hc => by
    have hall : cntD n L l = n := by
      have : cntD n L l ≤ (List.range n).length := List.countP_le_length
      rw [List.length_range] at this; omega
    apply Classical.byContradiction
    intro hne
    have := lrnd_more hL hE h hs hne
    have : cntD n L (Go.Fw.lrnd E l) ≤ (List.range n).length := List.countP_le_length
    rw [List.length_range] at this
    omega
  | k + 1, l, h, hs, hc => by
    obtain ⟨k1, k2, _⟩ := Dn.rnd hL hE E l (fun _ h => h) h
    refine lrnds_end hL hE k (Go.Fw.lrnd E l) k1 (fun v hv e => ?_) ?_
    · have hg := k1.ge hL (getD_at (i := v) (by rw [k1.1]; exact hv)) (getD_at (l := L) (i := v) (by rw [hL.1]; exact hv))
      have := k2 v
      have := hs v hv e
      omega
    · by_cases hne : l = L
      · subst hne
        have : cntD n l (Go.Fw.lrnd E l) = n := by
          unfold cntD
          rw [show n = (List.range n).length from by simp, ← List.length_range (n := n), List.countP_eq_length.2]
          · simp
          · intro v hv
            simp only [List.length_range, List.mem_range] at hv
            simp only [decide_eq_true_eq]
            have hg := k1.ge hL (getD_at (i := v) (by rw [k1.1]; exact hv)) (getD_at (l := l) (i := v) (by rw [hL.1]; exact hv))
            have := k2 v
            omega
        omega
      · have := lrnd_more hL hE h hs hne
        omega
/-- So many rounds as there are vertices make the labels. -/
theorem lrnds_labs (hE : EIn n E) : lrnds E n (lab0 n) = labs n E := by
  refine lrnds_end (labs_ok hE) hE n (lab0 n) ⟨lab0_len n, fun v x h => ?_⟩ (fun v hv e => ?_) (by omega)
  · obtain ⟨_, rfl⟩ := lab0_get h
    exact ⟨.refl _, Int.natCast_nonneg v⟩
  · have := getD_at (l := lab0 n) (i := v) (by rw [lab0_len]; exact hv)
    exact (lab0_get this).2
end
theorem h_sl01In (a b c : Int) : g_sl01In (a, b, c) = some (decide (b ≤ a) && decide (a ≤ c), ()) := by
  show f_sl01In BIG _ = _
  rw [e_sl01In]
  cases decide (b ≤ a) <;> rfl
theorem h_iin (a b c : Int) : g_iin (a, b, c) = some (decide (b ≤ a) && decide (a ≤ c), ()) := by
  show f_iin BIG _ = _
  rw [e_iin]
  cases decide (b ≤ a) <;> rfl
abbrev Ed := Int × Int
theorem foldl_filter {α : Type} (p : α → Bool) : ∀ (l : List α) (s : List α), l.foldl (fun s y => if p y then s ++ [y] else s) s = s ++ l.filter p
  | [], s => by simp
  | y :: l, s => by
    rw [List.foldl_cons, foldl_filter p l]
    cases h : p y <;> simp [h]
open Classical in
open Classical in
def inB (a b c : Int) : Bool := decide (b ≤ a) && decide (a ≤ c)
theorem h_sl01In' (a b c : Int) : g_sl01In (a, b, c) = some (inB a b c, ()) := h_sl01In a b c
theorem h_iin' (a b c : Int) : g_iin (a, b, c) = some (inB a b c, ()) := h_iin a b c
theorem inB_t {a b c : Int} : inB a b c = true ↔ b ≤ a ∧ a ≤ c := by simp [inB]
def edB (n : Int) (e : Ed) : Bool := inB n 1 12 && (inB e.1 0 (n - 1) && (inB e.2 0 (n - 1) && decide (e.1 < e.2)))
theorem h_iEdgeOk (n : Int) (e : Ed) : g_iEdgeOk (n, e) = some (edB n e, ()) := by
  show f_iEdgeOk BIG _ = _
  rw [e_iEdgeOk, h_iin', Option.bind_some]
  unfold edB
  cases h : inB n 1 12 with
  | false => rfl
  | true =>
    have := inB_t.1 h
    rw [wr (by omega) (by omega)]
    simp only [h_iin', Option.bind_some, cond_true, Bool.true_and]
    cases inB e.1 0 (n - 1) <;> cases inB e.2 0 (n - 1) <;> rfl
theorem h_sEdgeOk (n : Int) (e : Ed) : g_sEdgeOk (n, e) = some (edB n e, ()) := by
  show f_sEdgeOk BIG _ = _
  rw [e_sEdgeOk, h_sl01In', Option.bind_some]
  unfold edB
  cases h : inB n 1 12 with
  | false => rfl
  | true =>
    have := inB_t.1 h
    rw [wr (by omega) (by omega)]
    simp only [h_sl01In', Option.bind_some, cond_true, Bool.true_and]
    cases inB e.1 0 (n - 1) <;> cases inB e.2 0 (n - 1) <;> rfl
def lsB (x y : Ed) : Bool := decide (x.1 < y.1) || (decide (x.1 = y.1) && decide (x.2 < y.2))
theorem h_iahead (x y : Ed) : g_iahead (x, y) = some (lsB x y, ()) := by
  show f_iahead BIG _ = _
  rw [e_iahead]
  unfold lsB
  cases decide (x.1 < y.1) <;> cases decide (x.1 = y.1) <;> rfl
theorem h_sl05Less (x y : Ed) : g_sl05Less (x, y) = some (lsB x y, ()) := by
  show f_sl05Less BIG _ = _
  rw [e_sl05Less]
  unfold lsB
  cases decide (x.1 < y.1) <;> cases decide (x.1 = y.1) <;> rfl
def eP (n : Int) (es : List Ed) (i : Nat) : Bool := match es[i]? with
  | some y => edB n y && (match i with
    | 0 => true
    | j + 1 => match es[j]? with
      | some x => lsB x y
      | none => false)
  | none => false
theorem eP_0 {n : Int} {es : List Ed} {y : Ed} (h : es[0]? = some y) : eP n es 0 = edB n y := by
  unfold eP; rw [h]; simp
theorem eP_s {n : Int} {es : List Ed} {x y : Ed} {j : Nat} (h : es[j + 1]? = some y) (h' : es[j]? = some x) : eP n es (j + 1) = (edB n y && lsB x y) := by
  unfold eP; rw [h]; simp only [h']
def eOk (n : Int) (es : List Ed) : Bool := if ∀ i, i < es.length → eP n es i = true then decide ((es.length : Int) ≤ 66) else false
theorem eOk_len {n : Int} {es : List Ed} (h : eOk n es = true) : es.length ≤ 66 := by
  unfold eOk at h
  split at h
  · rw [decide_eq_true_eq] at h; omega
  · cases h
theorem h_iedgesOk (n : Int) (es : List Ed) (hl : es.length ≤ 1048576) : g_iedgesOk (n, es) = some (eOk n es, ()) := by
  have hm : maxLen = 9223372036854775807 := by decide
  show f_iedgesOk BIG _ = _
  rw [e_iedgesOk, allLoop es (by omega) (eP n es) false]
  · unfold eOk
    split <;> rfl
  · intro self i y hy
    have hi := (List.getElem?_eq_some_iff.1 hy).1
    simp only [show ((i : Int) < (es.length : Int)) from by omega, decide_true, cond_true]
    rw [bnd_nat hi, hy, Option.bind_some, h_iEdgeOk, wr1 (by omega)]
    cases i with
    | zero =>
      rw [eP_0 hy]
      cases edB n y <;> simp
    | succ j =>
      have hj : es[j]? = some (es[j]'(by omega)) := List.getElem?_eq_getElem (by omega)
      rw [eP_s hy hj, show (((j + 1 : Nat) : Int) - 1) = (j : Int) from by omega, wr (n := (j : Int)) (by omega) (by omega)]
      cases hb : edB n y with
      | false => simp
      | true =>
        simp only [Option.bind_some, Bool.not_true, cond_false, show (0 : Int) < ((j + 1 : Nat) : Int) from by omega, decide_true, cond_true, Bool.true_and]
        rw [bnd_nat (by omega), hj]
        simp only [Option.bind_some]
        simp only [Option.bind_some, h_iahead]
        cases lsB _ y <;> rfl
  · intro self
    simp
theorem h_sl05Edges (n : Int) (es : List Ed) (hl : es.length ≤ 1048576) : g_sl05Edges (n, es) = some (eOk n es, ()) := by
  have hm : maxLen = 9223372036854775807 := by decide
  show f_sl05Edges BIG _ = _
  rw [e_sl05Edges, allLoop es (by omega) (eP n es) false]
  · unfold eOk
    split <;> rfl
  · intro self i y hy
    have hi := (List.getElem?_eq_some_iff.1 hy).1
    simp only [show ((i : Int) < (es.length : Int)) from by omega, decide_true, cond_true]
    rw [bnd_nat hi, hy, Option.bind_some, h_sEdgeOk, wr1 (by omega)]
    cases i with
    | zero =>
      rw [eP_0 hy]
      cases edB n y <;> simp
    | succ j =>
      have hj : es[j]? = some (es[j]'(by omega)) := List.getElem?_eq_getElem (by omega)
      rw [eP_s hy hj, show (((j + 1 : Nat) : Int) - 1) = (j : Int) from by omega, wr (n := (j : Int)) (by omega) (by omega)]
      cases hb : edB n y with
      | false => simp
      | true =>
        simp only [Option.bind_some, Bool.not_true, cond_false, show (0 : Int) < ((j + 1 : Nat) : Int) from by omega, decide_true, cond_true, Bool.true_and]
        rw [bnd_nat (by omega), hj]
        simp only [Option.bind_some]
        rw [bnd_nat hi, hy]
        simp only [Option.bind_some, h_sl05Less]
        cases lsB _ y <;> rfl
  · intro self
    simp
theorem lsB_irrefl (x : Ed) : lsB x x = false := by simp [lsB]
theorem lsB_iff (x y : Ed) : lsB x y = true ↔ x.1 < y.1 ∨ (x.1 = y.1 ∧ x.2 < y.2) := by simp [lsB]
theorem lsB_trans {x y z : Ed} (h : lsB x y = true) (h' : lsB y z = true) : lsB x z = true := by
  rw [lsB_iff] at *; omega
theorem lsB_tri {x y : Ed} (h : lsB x y = false) (h' : lsB y x = false) : x = y := by
  have h1 : ¬ lsB x y = true := by simp [h]
  have h2 : ¬ lsB y x = true := by simp [h']
  rw [lsB_iff] at h1 h2
  exact Prod.ext (by omega) (by omega)
theorem lsB_asymm {x y : Ed} (h : lsB x y = true) : lsB y x = false := by
  cases h' : lsB y x with
  | false => rfl
  | true => have := lsB_trans h h'; rw [lsB_irrefl] at this; cases this
abbrev Srt (l : List Ed) : Prop := l.Pairwise (fun x y => lsB x y = true)
def ins (l : List Ed) (e : Ed) : List Ed := l.filter (fun y => lsB y e) ++ [e] ++ l.filter (fun y => lsB e y)
theorem ins_mem {l : List Ed} {e x : Ed} : x ∈ ins l e ↔ x = e ∨ x ∈ l := by
  simp only [ins, List.mem_append, List.mem_filter, List.mem_singleton]
  constructor
  · rintro ((h | h) | h)
    · exact .inr h.1
    · exact .inl h
    · exact .inr h.1
  · rintro (h | h)
    · exact .inl (.inr h)
    · cases h1 : lsB x e with
      | true => exact .inl (.inl ⟨h, rfl⟩)
      | false =>
        cases h2 : lsB e x with
        | true => exact .inr ⟨h, rfl⟩
        | false => exact .inl (.inr (lsB_tri h1 h2))
theorem ins_srt {l : List Ed} {e : Ed} (h : Srt l) : Srt (ins l e) := by
  simp only [ins, Srt, List.append_assoc, List.pairwise_append, List.singleton_append, List.pairwise_cons]
  refine ⟨h.filter _, ⟨fun y hy => (List.mem_filter.1 hy).2, h.filter _⟩, fun x hx y hy => ?_⟩
  have h1 := (List.mem_filter.1 hx).2
  rcases List.mem_cons.1 hy with hy | hy
  · subst hy; exact h1
  · exact lsB_trans h1 (List.mem_filter.1 hy).2
theorem filter_two_len (e : Ed) : ∀ l : List Ed, (l.filter (fun y => lsB y e)).length + (l.filter (fun y => lsB e y)).length ≤ l.length
  | [] => by simp
  | y :: l => by
    have := filter_two_len e l
    simp only [List.filter_cons]
    cases h1 : lsB y e <;> cases h2 : lsB e y <;> simp
    · omega
    · omega
    · omega
    · rw [lsB_asymm h1] at h2; cases h2
theorem ins_len (l : List Ed) (e : Ed) : (ins l e).length ≤ l.length + 1 := by
  have := filter_two_len e l
  simp only [ins, List.length_append, List.length_singleton]
  omega
/-- How many of the first ones are ahead of it. -/
def fdI : List Ed → Ed → Nat
  | [], _ => 0
  | y :: l, e => if lsB y e then fdI l e + 1 else 0
theorem fdI_ins {l : List Ed} {e : Ed} (h : Srt l) (hne : e ∉ l) : l.take (fdI l e) ++ [e] ++ l.drop (fdI l e) = ins l e := by
  induction l with
  | nil => rfl
  | cons y l ih =>
    rw [Srt, List.pairwise_cons] at h
    have ih := ih h.2 (fun hh => hne (by simp [hh]))
    cases h1 : lsB y e with
    | true =>
      have h2 := lsB_asymm h1
      simp only [fdI, h1, if_true, List.take_succ_cons, List.drop_succ_cons, List.cons_append, ih]
      simp only [ins, List.filter_cons, h1, h2, if_true, List.cons_append]
      simp
    | false =>
      have h2 : lsB e y = true := by
        cases h2 : lsB e y with
        | true => rfl
        | false => exact absurd (lsB_tri h1 h2).symm (fun hh => hne (by simp [hh]))
      have h3 : ∀ z, z ∈ l → lsB z e = false ∧ lsB e z = true := fun z hz => by
        have := lsB_trans h2 (h.1 z hz)
        exact ⟨lsB_asymm this, this⟩
      have f1 : l.filter (fun y => lsB y e) = [] := by
        rw [List.filter_eq_nil_iff]; intro z hz; simp [(h3 z hz).1]
      have f2 : l.filter (fun y => lsB e y) = l := by
        rw [List.filter_eq_self]; intro z hz; exact (h3 z hz).2
      simp only [fdI, h1, ins, List.filter_cons, h2, if_true, f1, f2]
      simp
theorem h_sl05Has (l : List Ed) (e : Ed) (hl : l.length ≤ maxLen) : g_sl05Has (l, e) = some (decide (e ∈ l), ()) := by
  show f_sl05Has BIG _ = _
  rw [e_sl05Has, allLoop l (Nat.lt_of_le_of_lt hl maxLen_lt) (fun i => decide (l[i]? ≠ some e)) true (fun self i y hy => by
      have hi := (List.getElem?_eq_some_iff.1 hy).1
      simp only [show ((i : Int) < (l.length : Int)) from by omega, decide_true, cond_true]
      rw [bnd_nat hi, hy, Option.bind_some, wr1 (by omega)]
      obtain ⟨y1, y2⟩ := y
      obtain ⟨e1, e2⟩ := e
      by_cases h1 : y1 = e1 <;> by_cases h2 : y2 = e2 <;> simp [h1, h2]) (fun self => by simp)]
  by_cases h : e ∈ l
  · rw [if_neg, decide_eq_true h]
    · rfl
    · intro hh
      obtain ⟨i, hi⟩ := List.getElem?_of_mem h
      have := hh i (List.getElem?_eq_some_iff.1 hi).1
      rw [decide_eq_true_eq] at this
      exact this hi
  · rw [if_pos, decide_eq_false h]
    · rfl
    · intro i hi
      rw [decide_eq_true_eq]
      exact fun hh => h (List.mem_of_getElem? hh)
theorem h_ihasEdge (l : List Ed) (e : Ed) (hl : l.length ≤ maxLen) : g_ihasEdge (l, e) = some (decide (e ∈ l), ()) := by
  rw [← h_sl05Has l e hl]
  show f_ihasEdge BIG _ = f_sl05Has BIG _
  rw [e_ihasEdge, e_sl05Has]
theorem h_sl05Put (l : List Ed) (e : Ed) (hl : l.length ≤ 1048576) : g_sl05Put (l, e) = some (ins l e, ()) := by
  have hm : maxLen = 9223372036854775807 := by decide
  show f_sl05Put BIG _ = _
  rw [e_sl05Put, foldLoop l (by omega) (fun i (c : List Ed) => c.length ≤ i) (fun c y => if lsB y e then c ++ [y] else c) id (by simp) (fun i c y _ (h : c.length ≤ i) => by show List.length (if _ then _ else _) ≤ _; split <;> (try simp) <;> omega)]
  · rw [foldl_filter]
    simp only [id, List.nil_append, Option.bind_some]
    have h1 := List.length_filter_le (fun y => lsB y e) l
    rw [decide_eq_true (by simp; omega), cond_true, foldLoop l (by omega) (fun i (c : List Ed) => c.length ≤ l.length + 1 + i) (fun c y => if lsB e y then c ++ [y] else c) id (by simp; omega) (fun i c y _ (h : c.length ≤ _) => by show List.length (if _ then _ else _) ≤ _; split <;> (try simp) <;> omega)]
    · rw [foldl_filter]; rfl
    · intro self c i y hy (hc : c.length ≤ _)
      have hi := (List.getElem?_eq_some_iff.1 hy).1
      simp only [show ((i : Int) < (l.length : Int)) from by omega, decide_true, cond_true]
      simp only [bnd_nat hi, hy, Option.bind_some, h_sl05Less, wr1 (show i < maxLen from by omega)]
      cases lsB e y with
      | false => simp
      | true => simp [show c.length + 1 ≤ 4294967296 from by omega]
    · intro self c hc
      simp
  · intro self c i y hy (hc : c.length ≤ i)
    have hi := (List.getElem?_eq_some_iff.1 hy).1
    simp only [show ((i : Int) < (l.length : Int)) from by omega, decide_true, cond_true]
    simp only [bnd_nat hi, hy, Option.bind_some, h_sl05Less, wr1 (show i < maxLen from by omega)]
    cases lsB y e with
    | false => simp
    | true => simp [show c.length + 1 ≤ 4294967296 from by omega]
  · intro self c hc
    simp
theorem fdI_le : ∀ (l : List Ed) (e : Ed), fdI l e ≤ l.length
  | [], _ => by simp [fdI]
  | y :: l, e => by
    have := fdI_le l e
    simp only [fdI, List.length_cons]
    split <;> omega
theorem fdI_at : ∀ {l : List Ed} {e y : Ed} {i : Nat}, i ≤ fdI l e → l[i]? = some y → lsB y e = decide (i < fdI l e)
  | [], _, _, _, _, hy => by simp at hy
  | z :: l, e, y, i, hi, hy => by
    cases hz : lsB z e with
    | false =>
      simp only [fdI, hz] at hi ⊢
      have : i = 0 := by simpa using hi
      subst this
      simp only [List.getElem?_cons_zero, Option.some.injEq] at hy
      subst hy
      simp [hz]
    | true =>
      simp only [fdI, hz, if_true] at hi ⊢
      cases i with
      | zero =>
        simp only [List.getElem?_cons_zero, Option.some.injEq] at hy
        subst hy
        simp [hz]
      | succ i =>
        simp only [List.getElem?_cons_succ] at hy
        rw [fdI_at (by omega) hy]
        simp
theorem h_iwithEdge (l : List Ed) (e : Ed) (hl : l.length ≤ 1048576) : g_iwithEdge (l, e) = some (l.take (fdI l e) ++ [e] ++ l.drop (fdI l e), ()) := by
  have hm : maxLen = 9223372036854775807 := by decide
  have hle := fdI_le l e
  show f_iwithEdge BIG _ = _
  rw [e_iwithEdge, loop_eq (fun (x : Int) => ∃ i : Nat, x = i ∧ i ≤ fdI l e) (fun (x : Int) => l.length - x.toNat) (fun _ => ((fdI l e : Nat) : Int)) (fun self x ⟨i, h1, h2⟩ hs => by
    subst h1
    by_cases hi : i < l.length
    · have hy := List.getElem?_eq_getElem hi
      have hat := fdI_at h2 hy
      simp only [show ((i : Int) < (l.length : Int)) from by omega, decide_true, cond_true]
      simp only [bnd_nat hi, hy, Option.bind_some, h_iahead, wr1 (show i < maxLen from by omega), hat]
      by_cases hlt : i < fdI l e
      · rw [decide_eq_true hlt, cond_true]
        exact hs _ ⟨i + 1, rfl, hlt⟩ (by simp; omega)
      · rw [decide_eq_false hlt, cond_false]
        have : i = fdI l e := by omega
        rw [← this]
    · have : i = l.length := by omega
      have h3 : fdI l e = i := by omega
      rw [h3, this]
      simp) (n := BIG) (x := 0) (by simp [BIG]; omega) ⟨0, rfl, by omega⟩]
  simp only [Option.bind_some, Int.toNat_natCast, Nat.sub_zero, List.drop_zero]
  rw [decide_eq_true (by omega), cond_true, decide_eq_true (by omega), cond_true, decide_eq_true (by simp; omega), cond_true, decide_eq_true (by simp; omega), cond_true, cond_true, decide_eq_true (by omega), cond_true, decide_eq_true (by simp; omega), cond_true]
  congr 3
  rw [List.take_of_length_le]
  simp
def GrOk (n : Int) (es : List Ed) : Prop := 2 ≤ n ∧ n ≤ 12 ∧ Srt es ∧ (∀ e, e ∈ es → edB n e = true)
theorem h_sHasEdge (n : Int) (es : List Ed) (e : Ed) (hl : es.length ≤ maxLen) : g_sHasEdge ((n, es), e) = some (decide (e ∈ es), ()) := by
  show f_sHasEdge BIG _ = _
  rw [e_sHasEdge, h_sl05Has _ _ hl]; rfl
theorem h_iHasEdge (n : Int) (es : List Ed) (e : Ed) (hl : es.length ≤ maxLen) : g_iHasEdge ((n, es), e) = some (decide (e ∈ es), ()) := by
  show f_iHasEdge BIG _ = _
  rw [e_iHasEdge, h_ihasEdge _ _ hl]; rfl
def del (es : List Ed) (e : Ed) : List Ed := es.filter (fun y => !decide (y = e))
theorem del_mem {es : List Ed} {e x : Ed} : x ∈ del es e ↔ x ∈ es ∧ x ≠ e := by simp [del]
theorem del_srt {es : List Ed} {e : Ed} (h : Srt es) : Srt (del es e) := h.filter _
theorem del_len (es : List Ed) (e : Ed) : (del es e).length ≤ es.length := List.length_filter_le _ _
theorem GrOk.ins {n : Int} {es : List Ed} {e : Ed} (h : GrOk n es) (he : edB n e = true) : GrOk n (ins es e) := ⟨h.1, h.2.1, ins_srt h.2.2.1, fun x hx => by
  rcases ins_mem.1 hx with rfl | hx
  · exact he
  · exact h.2.2.2 x hx⟩
theorem GrOk.del {n : Int} {es : List Ed} {e : Ed} (h : GrOk n es) : GrOk n (del es e) := ⟨h.1, h.2.1, del_srt h.2.2.1, fun x hx => h.2.2.2 x (del_mem.1 hx).1⟩
theorem to_Ask (x0 : Int) (x1 : Int) (x2 : Int) (x3 : Int) : g_ltoAsk (x0, x1, x2, x3) = some ((x0, x1, x2, x3), ()) := e_ltoAsk BIG _
theorem to_Edge (x0 : Int) (x1 : Int) : g_ltoEdge (x0, x1) = some ((x0, x1), ()) := e_ltoEdge BIG _
theorem eq_Edge (x0 : Int) (x1 : Int) (y0 : Int) (y1 : Int) : g_leqEdge ((x0, x1), (y0, y1)) = some (decide ((x0, x1) = (y0, y1)), ()) := by
  show f_leqEdge BIG _ = _
  rw [e_leqEdge]
  dsimp only
  by_cases c0 : x0 = y0
  case neg =>
    simp [c0]
  rw [decide_eq_true c0, Bool.not_true, cond_false]
  by_cases c1 : x1 = y1
  case neg =>
    simp [c1]
  rw [decide_eq_true c1, Bool.not_true, cond_false]
  rw [decide_eq_true (by simp_all)]
theorem sz_EdgeS (a : List (Int × Int)) (l : Int) (h0 : 0 ≤ l) (h1 : l ≤ 1048576) (ha : a.length ≤ maxLen) : g_lszEdgeS (a, l) = some (if ((a.length : Nat) : Int) ≤ l then l - (a.length : Nat) else -1, ()) := by
  have hm : maxLen = 9223372036854775807 := by decide
  show f_lszEdgeS BIG _ = _
  rw [e_lszEdgeS, wr (by omega) (by omega)]
  by_cases h : ((a.length : Nat) : Int) ≤ l
  · rw [if_pos h, decide_eq_false (by omega), cond_false]
  · rw [if_neg h, decide_eq_true (by omega), cond_true]
theorem to_EdgeS (a : List (Int × Int)) (h : a.length ≤ 1048576) : g_ltoEdgeS a = some (a, ()) := by
  have hm : maxLen = 9223372036854775807 := by decide
  show f_ltoEdgeS BIG _ = _
  rw [e_ltoEdgeS, decide_eq_true (by omega), cond_true, decide_eq_true (by simp; omega), cond_true]
  simp only [Int.toNat_natCast]
  rw [cpLoop a (by omega)]
  · rfl
  · intro self out i y hl hy
    have hi := (List.getElem?_eq_some_iff.1 hy).1
    simp only [show ((i : Int) < (a.length : Int)) from by omega, decide_true, cond_true]
    rw [bnd_nat hi, hy, Option.bind_some]
    rw [to_Edge _ _, Option.bind_some]
    rw [bnd_nat (by omega), List.getElem?_eq_getElem (by omega), Option.bind_some, wr1 (by omega)]
  · intro self out hl
    simp
theorem eq_EdgeS (a b : List (Int × Int)) (h : a.length ≤ 4294967296) : g_leqEdgeS (a, b) = some (decide (a = b), ()) := by
  have hm : maxLen = 9223372036854775807 := by decide
  show f_leqEdgeS BIG _ = _
  rw [e_leqEdgeS]
  by_cases hl : a.length = b.length
  · rw [decide_eq_true (by omega), Bool.not_true, cond_false, eqLoop a b (by omega) hl false]
    · by_cases h : a = b <;> simp [h]
    · intro self i x y hx hy
      have hi := (List.getElem?_eq_some_iff.1 hx).1
      simp only [show ((i : Int) < (a.length : Int)) from by omega, decide_true, cond_true]
      rw [bnd_nat hi, hx, Option.bind_some, bnd_nat (by omega), hy, Option.bind_some]
      rw [wr1 (by omega)]
      rw [eq_Edge _ _ _ _, Option.bind_some]
      by_cases h : x = y <;> simp [h]
    · intro self
      simp
  · rw [decide_eq_false (by omega), Bool.not_false, cond_true, decide_eq_false (fun h => hl (by rw [h]))]
def hd_EdgeS (k : Int) (z : Int × Int) (k' : Int) : Prop := z = (k, k + 1) ∧ k' = k + 1 + 1 ∧ 0 ≤ k ∧ k ≤ 4611686018427387904
theorem mh_EdgeS (a : List (Int × Int)) (k : Int) (h0 : 0 ≤ k) (hk : k + 33554432 ≤ 4611686018427387904) (hz : a.length ≤ 16777216) : ∃ t c, g_lmarkEdgeS (a, k) = some (c, t) ∧ g_lheldEdgeS (t, k) = some (c, ()) ∧ k ≤ c ∧ c ≤ k + 33554432 := by
  have hm : maxLen = 9223372036854775807 := by decide
  have L := mkLoop hd_EdgeS 2 (by omega) a k (by omega) (F := fun self1 x0 =>
    bif decide (x0.2.2 < (x0.1.length : Int)) then
     bnd x0.1.length x0.2.2 fun n2 =>
     Option.bind x0.1[n2]? fun y3 =>
     bnd (x0.1.set n2 (x0.2.1, y3.2)).length x0.2.2 fun n4 =>
     Option.bind (x0.1.set n2 (x0.2.1, y3.2))[n4]? fun y5 =>
     self1 ((x0.1.set n2 (x0.2.1, y3.2)).set n4 (y5.1, IntKind.wrap .i64 (x0.2.1 + (1 : Int))), IntKind.wrap .i64 ((IntKind.wrap .i64 (x0.2.1 + (1 : Int))) + (1 : Int)), IntKind.wrap .i64 (x0.2.2 + (1 : Int)))
    else some (x0.1, x0.2.1)) (by
    intro self out i k y hi hl hy _ hk0 hk1
    have hi' : i < out.length := by omega
    have w1 : IntKind.wrap .i64 (k + 1) = k + 1 := wr (by omega) (by omega)
    have w2 : IntKind.wrap .i64 (k + 1 + 1) = k + 1 + 1 := wr (by omega) (by omega)
    refine ⟨(k, k + 1), k + 1 + 1, ⟨rfl, rfl, by omega, by omega⟩, by omega, by omega, ?_⟩
    simp only [hl, show ((i : Int) < (a.length : Int)) from by omega, decide_true, cond_true, List.length_set, bnd_nat hi, hy, List.getElem?_set_self hi', Option.bind_some, List.set_set, w1, w2, and_true]
    rw [wr1 (by omega)]) (by
    intro self out k hl
    simp [hl])
  obtain ⟨t, c, e1, e2, e3, e4, e5⟩ := L
  refine ⟨t, c, ?_, ?_, e4, by omega⟩
  · show f_lmarkEdgeS BIG _ = _
    rw [e_lmarkEdgeS, e1]
    rfl
  · show f_lheldEdgeS BIG _ = _
    rw [e_lheldEdgeS, hdLoop hd_EdgeS t k c (by omega) e2]
    · rfl
    · intro self i kk kk' z hz ⟨g1, g2, g3, g4⟩
      subst g2
      rw [g1] at hz
      have hi := (List.getElem?_eq_some_iff.1 hz).1
      have w1 : IntKind.wrap .i64 (kk + 1) = kk + 1 := wr (by omega) (by omega)
      have w2 : IntKind.wrap .i64 (kk + 1 + 1) = kk + 1 + 1 := wr (by omega) (by omega)
      simp only [show ((i : Int) < (t.length : Int)) from by omega, decide_true, cond_true, bnd_nat hi, hz, Option.bind_some, w1, w2, Bool.not_true, cond_false, beq_self_eq_true]
      rw [wr1 (by omega)]
    · intro self k
      simp
theorem sz_Graph (x0 : Int) (x1 : List (Int × Int)) (l : Int) (h0 : 0 ≤ l) (h1 : l ≤ 1048576) (q1 : x1.length ≤ maxLen) : g_lszGraph ((x0, x1), l) = some (if (((x1.length) : Nat) : Int) ≤ l then l - ((x1.length) : Nat) else -1, ()) := by
  show f_lszGraph BIG _ = _
  rw [e_lszGraph]
  dsimp only
  have s0 := sz_EdgeS x1 (l) (by omega) (by omega) q1
  by_cases c0 : (((x1.length) : Nat) : Int) ≤ l
  case neg =>
    rw [if_neg c0] at s0
    rw [s0, Option.bind_some, if_neg (by omega)]
    all_goals rfl
  rw [if_pos c0] at s0
  rw [s0, Option.bind_some]
  dsimp only
  rw [decide_eq_false (by omega), cond_false]
  rw [if_pos (by omega)]
  all_goals first | rfl | (congr 2; done) | (congr 2; omega)
theorem to_Graph (x0 : Int) (x1 : List (Int × Int)) (h : (x1.length) ≤ 1048576) : g_ltoGraph (x0, x1) = some ((x0, x1), ()) := by
  show f_ltoGraph BIG _ = _
  rw [e_ltoGraph]
  dsimp only
  rw [to_EdgeS x1 (by omega), Option.bind_some]
theorem eq_Graph (x0 : Int) (x1 : List (Int × Int)) (h : (x1.length) ≤ 4294967296) : g_leqGraph ((x0, x1), (x0, x1)) = some (true, ()) := by
  show f_leqGraph BIG _ = _
  rw [e_leqGraph]
  dsimp only
  rw [decide_eq_true rfl, Bool.not_true, cond_false]
  rw [eq_EdgeS x1 x1 (by omega), Option.bind_some]
  rw [decide_eq_true rfl, Bool.not_true, cond_false]
theorem mh_Graph (x0 : Int) (x1 : List (Int × Int)) (k : Int) (h0 : 0 ≤ k) (hk : k + 33554432 ≤ 4611686018427387904) (hz : (x1.length) ≤ 16777216) : ∃ t1 c, g_lmarkGraph ((x0, x1), k) = some (c, (x0, t1)) ∧ g_lheldGraph ((x0, t1), k) = some (c, ()) ∧ k ≤ c ∧ c ≤ k + 33554432 := by
  obtain ⟨t1, c0, m0, d0, l0, u0⟩ := mh_EdgeS x1 k (by omega) (by omega) (by omega)
  refine ⟨t1, c0, ?_, ?_, by omega, by omega⟩
  · show f_lmarkGraph BIG _ = _
    rw [e_lmarkGraph]
    dsimp only
    rw [m0, Option.bind_some]
  · show f_lheldGraph BIG _ = _
    rw [e_lheldGraph]
    dsimp only
    rw [d0, Option.bind_some]
    dsimp only
    rw [decide_eq_false (by omega), cond_false]
theorem neg_f {c : Int} (h : 1 ≤ c) : decide (c < 0) = false := decide_eq_false (by omega)
/-- A loop that counts up to a number and keeps an account. -/
theorem rangeLoop {S B : Type} (n : Nat) (hl : n < 18446744073709551616) {F : (S × Int → Option B) → S × Int → Option B} (I : Nat → S → Prop) (st : Nat → S → S) (R : S → B) {s0 : S} (h0 : I 0 s0)
    (hI : ∀ i s, i < n → I i s → I (i + 1) (st i s)) (hF : ∀ self s (i : Nat), i < n → I i s → F self (s, (i : Int)) = self (st i s, ((i + 1 : Nat) : Int)))
    (hE : ∀ self s, I n s → F self (s, (n : Int)) = some (R s)) : loopT BIG F (s0, 0) = some (R ((List.range n).foldl (fun s i => st i s) s0)) := by
  have hr : ∀ {i y : Nat}, (List.range n)[i]? = some y → i < n ∧ y = i := by
    intro i y h
    have hi := (List.getElem?_eq_some_iff.1 h).1
    rw [List.length_range] at hi
    rw [List.getElem?_range hi] at h
    cases h
    exact ⟨hi, rfl⟩
  refine foldLoop (List.range n) (by rw [List.length_range]; exact hl) I (fun s i => st i s) R h0 (fun i s y hy hi => ?_) (fun self s i y hy hi => ?_) (fun self s hs => ?_)
  · obtain ⟨h1, rfl⟩ := hr hy; exact hI _ _ h1 hi
  · obtain ⟨h1, rfl⟩ := hr hy; exact hF _ _ _ h1 hi
  · rw [List.length_range] at hs ⊢; exact hE _ _ hs
theorem fold_snoc {α : Type} (f : Nat → α) (n : Nat) (s : List α) : (List.range n).foldl (fun s i => s ++ [f i]) s = s ++ (List.range n).map f := by
  induction n with
  | zero => simp
  | succ n ih => rw [List.range_succ, List.foldl_append, ih]; simp
theorem lab0Loop (n : Nat) (hn : n ≤ 1000000) {F : (List Int × Int → Option (List Int)) → List Int × Int → Option (List Int)}
    (hF : ∀ self out (i : Nat), i < n → out.length = i → F self (out, (i : Int)) = self (out ++ [(i : Int)], ((i + 1 : Nat) : Int)))
    (hE : ∀ self out, F self (out, (n : Int)) = some out) : loopT BIG F ([], 0) = some (lab0 n) := by
  rw [rangeLoop n (by omega) (fun i (s : List Int) => s.length = i) (fun i s => s ++ [(i : Int)]) id rfl (fun i s _ h => by simp [h]) (fun self s i hi h => hF self s i hi h) (fun self s _ => hE self s), fold_snoc]
  rfl
theorem h_ifirst (n : Nat) (hn : n ≤ 1000000) : g_ifirst (n : Int) = some (lab0 n, ()) := by
  have hm : maxLen = 9223372036854775807 := by decide
  show f_ifirst BIG _ = _
  rw [e_ifirst, lab0Loop n hn]
  · rfl
  · intro self out i hi hl
    simp only [show ((i : Int) < (n : Int)) from by omega, decide_true, cond_true]
    rw [decide_eq_true (by simp; omega), cond_true, wr1 (by omega)]
  · intro self out
    simp
theorem lrnds_fold (E : List (Int × Int)) (n : Nat) : ∀ l : List Int, (List.range n).foldl (fun s _ => lrnd E s) l = lrnds E n l := by
  have : ∀ (m : Nat) (l : List Int), lrnds E (m + 1) l = lrnd E (lrnds E m l) := by
    intro m
    induction m with
    | zero => intro l; rfl
    | succ m ih => intro l; show lrnds E (m + 1) (lrnd E l) = _; rw [ih]; rfl
  induction n with
  | zero => intro l; rfl
  | succ n ih => intro l; rw [List.range_succ, List.foldl_append, ih, this]; rfl
theorem h_sl05Labels (n : Nat) (E : List (Int × Int)) (hn : n ≤ 12) (hE : EIn n E) (hl : E.length ≤ 4611686018427387904) : g_sl05Labels ((n : Int), E) = some (labs n E, ()) := by
  have hm : maxLen = 9223372036854775807 := by decide
  show f_sl05Labels BIG _ = _
  rw [e_sl05Labels, lab0Loop n (by omega)]
  · rw [Option.bind_some, rangeLoop n (by omega) (fun i (s : List Int) => s.length = n) (fun _ s => lrnd E s) id (lab0_len n) (fun i s _ h => by rw [lrnd_len]; exact h)]
    · rw [lrnds_fold, lrnds_labs hE]; rfl
    · intro self s i hi hs
      simp only [show ((i : Int) < (n : Int)) from by omega, decide_true, cond_true]
      rw [foldLoop E (by omega) (fun _ (s : List Int) => s.length = n) rlE id hs (fun i s y _ h => by rw [rlE_len]; exact h)]
      · rw [Option.bind_some, wr1 (by omega)]; rfl
      · intro self s i y hy hs
        have hi := (List.getElem?_eq_some_iff.1 hy).1
        obtain ⟨h1, h2, h3, h4⟩ := hE y (List.mem_of_getElem? hy)
        have i1 : y.1.toNat < s.length := by omega
        have i2 : y.2.toNat < s.length := by omega
        simp only [show ((i : Int) < (E.length : Int)) from by omega, decide_true, cond_true]
        rw [wr1 (by omega), bnd_nat hi, hy, Option.bind_some, bnd_ok h1 (by omega), getD_at i1, Option.bind_some, bnd_nat hi, hy, Option.bind_some, bnd_ok h3 (by omega), getD_at i2, Option.bind_some]
        unfold rlE
        simp only
        by_cases c1 : s.getD y.1.toNat 0 < s.getD y.2.toNat 0
        · rw [decide_eq_true c1, cond_true, bnd_nat hi, hy, Option.bind_some, bnd_ok h3 (by omega), getD_at i2, Option.bind_some, Option.bind_some, decide_eq_false (by omega), cond_false, if_pos c1, if_neg (by omega)]
          rfl
        · rw [decide_eq_false c1, cond_false, Option.bind_some, if_neg c1]
          by_cases c2 : s.getD y.2.toNat 0 < s.getD y.1.toNat 0
          · rw [decide_eq_true c2, cond_true, bnd_nat hi, hy, Option.bind_some, bnd_ok h1 (by omega), getD_at i1, Option.bind_some, if_pos c2]
            rfl
          · rw [decide_eq_false c2, cond_false, if_neg c2]
            rfl
      · intro self s _
        simp
    · intro self s _
      simp
  · intro self out i hi hl
    simp only [show ((i : Int) < (n : Int)) from by omega, decide_true, cond_true]
    rw [decide_eq_true (by simp; omega), cond_true, wr1 (by omega)]
  · intro self out
    simp
def grB (n : Int) (es : List Ed) : Bool := inB n 1 12 && eOk n es
theorem w_iGraphOk (n : Int) (es : List Ed) (hl : es.length ≤ 1048576) : g_iGraphOk (n, es) = some (grB n es, ()) := by
  show f_iGraphOk BIG _ = _
  rw [e_iGraphOk, h_iin', h_iedgesOk n es hl]
  unfold grB
  cases inB n 1 12 <;> rfl
theorem w_sGraphOk (n : Int) (es : List Ed) (hl : es.length ≤ 1048576) : g_sGraphOk (n, es) = some (grB n es, ()) := by
  show f_sGraphOk BIG _ = _
  rw [e_sGraphOk, h_sl01In', h_sl05Edges n es hl]
  unfold grB
  cases inB n 1 12 <;> rfl
theorem eOk_srt {n : Int} {es : List Ed} (h : eOk n es = true) : (∀ e, e ∈ es → edB n e = true) ∧ Srt es ∧ es.length ≤ 66 := by
  have hl := eOk_len h
  unfold eOk at h
  split at h
  case isFalse => cases h
  case isTrue hp =>
  have hc : ∀ i (h : i + 1 < es.length), edB n es[i + 1] = true ∧ lsB es[i] es[i + 1] = true := by
    intro i hi
    have := hp (i + 1) hi
    rw [eP_s (List.getElem?_eq_getElem hi) (List.getElem?_eq_getElem (by omega)), Bool.and_eq_true] at this
    exact this
  have h0 : ∀ i (h : i < es.length), edB n es[i] = true := by
    intro i hi
    cases i with
    | zero => have := hp 0 hi; rwa [eP_0 (List.getElem?_eq_getElem hi)] at this
    | succ i => exact (hc i hi).1
  refine ⟨fun e he => ?_, List.pairwise_iff_getElem.2 fun i j hi hj hij => ?_, hl⟩
  · obtain ⟨i, hi, rfl⟩ := List.getElem_of_mem he
    exact h0 i hi
  · have : ∀ d (h : i + 1 + d < es.length), lsB es[i] es[i + 1 + d] = true := by
      intro d
      induction d with
      | zero => intro h; exact (hc i h).2
      | succ d ih => intro h; exact lsB_trans (ih (by omega)) (hc (i + 1 + d) h).2
    have := this (j - (i + 1)) (by omega)
    simpa [show i + 1 + (j - (i + 1)) = j from by omega] using this
theorem edB_in {n : Nat} {e : Ed} (h : edB (n : Int) e = true) : 0 ≤ e.1 ∧ e.1 < n ∧ 0 ≤ e.2 ∧ e.2 < n ∧ e.1 < e.2 := by
  simp only [edB, Bool.and_eq_true, inB_t, decide_eq_true_eq] at h
  omega
theorem eOk_in {n : Nat} {es : List Ed} (h : eOk (n : Int) es = true) : EIn n es := fun e he => by
  have := edB_in ((eOk_srt h).1 e he)
  exact ⟨this.1, this.2.1, this.2.2.1, this.2.2.2.1⟩
/-- A loop that changes each of a row in its place. -/
theorem mapLoop {α : Type} (a : List α) (f : α → α) (hl : a.length < 18446744073709551616) {F : (List α × Int → Option (List α)) → List α × Int → Option (List α)}
    (hF : ∀ self out (i : Nat) y, out.length = a.length → out[i]? = some y → a[i]? = some y → F self (out, (i : Int)) = self (out.set i (f y), ((i + 1 : Nat) : Int)))
    (hE : ∀ self out, out.length = a.length → F self (out, (a.length : Int)) = some out) : loopT BIG F (a, 0) = some (a.map f) := by
  have := loop_eq (F := F) (fun x => ∃ i : Nat, x.2 = i ∧ i ≤ a.length ∧ x.1 = (a.map f).take i ++ a.drop i) (fun x => a.length - x.2.toNat) (fun _ => a.map f) (fun self x ⟨i, h1, h2, h3⟩ hs => ?_) (n := BIG) (x := (a, 0)) (by simp; exact hl) ⟨0, rfl, by simp, by simp⟩
  · exact this
  · obtain ⟨out, j⟩ := x
    simp only at h1 h3
    subst h1
    have hlen : out.length = a.length := by rw [h3]; simp; omega
    by_cases hi : i < a.length
    · have hy := List.getElem?_eq_getElem hi
      have ho : out[i]? = some a[i] := by
        rw [h3, List.getElem?_append_right (by simp; omega)]
        simp [Nat.min_eq_left (show i ≤ a.length from by omega)]
      rw [hF self out i a[i] hlen ho hy]
      have e := set_take_drop (a := a) (t := a.map f) (i := i) (z := f a[i]) (by simp) hi (by simp [hi])
      rw [← h3] at e
      exact hs _ ⟨i + 1, rfl, hi, e⟩ (by simp; omega)
    · have : i = a.length := by omega
      subst this
      rw [hE self out hlen, h3]
      simp [List.take_of_length_le]
theorem set_self {α : Type} {l : List α} {i : Nat} {y : α} (h : l[i]? = some y) : l.set i y = l := by
  apply List.ext_getElem?
  intro j
  rw [List.getElem?_set]
  split
  · subst j
    have := (List.getElem?_eq_some_iff.1 h).1
    simp [this, h.symm]
  · rfl
theorem h_iunion (l : List Int) (a b : Int) (ha : 0 ≤ a) (ha' : a < l.length) (hb : 0 ≤ b) (hb' : b < l.length) (hl : l.length ≤ 1048576) :
    g_iunion (l, a, b) = some (!decide (l.getD a.toNat 0 = l.getD b.toNat 0), unE l (a, b)) := by
  have hm : maxLen = 9223372036854775807 := by decide
  show f_iunion BIG _ = _
  rw [e_iunion, bnd_ok ha ha', getD_at (by omega), Option.bind_some, bnd_ok hb hb', getD_at (by omega), Option.bind_some]
  unfold unE
  simp only
  generalize l.getD a.toNat 0 = x
  generalize l.getD b.toNat 0 = y
  by_cases h : x = y
  · subst h
    rw [decide_eq_true rfl, cond_true, unL_same]; rfl
  · rw [decide_eq_false h, cond_false, mapLoop l (fun z => if z = (if y > x then y else x) then (if y < x then y else x) else z) (by omega)]
    · rfl
    · intro self out i z hlo ho hz
      have hi := (List.getElem?_eq_some_iff.1 hz).1
      simp only [show ((i : Int) < (l.length : Int)) from by omega, decide_true, cond_true]
      rw [bnd_nat (by omega), ho, Option.bind_some, wr1 (by omega)]
      by_cases hc : z = (if y > x then y else x)
      · rw [decide_eq_true hc, cond_true, bnd_nat (by omega), ho, Option.bind_some, if_pos hc]; rfl
      · rw [decide_eq_false hc, cond_false, if_neg hc, set_self ho]; rfl
    · intro self out hlo
      simp
theorem h_iLabels (n : Nat) (es : List Ed) (hl : es.length ≤ 1048576) : g_iLabels ((n : Int), es) = some (if grB n es then labs n es else [], ()) := by
  have hm : maxLen = 9223372036854775807 := by decide
  show f_iLabels BIG _ = _
  rw [e_iLabels, w_iGraphOk _ _ hl, Option.bind_some]
  cases hg : grB n es with
  | false => rfl
  | true =>
    simp only [grB, Bool.and_eq_true, inB_t] at hg
    have hin := eOk_in hg.2
    simp only [Bool.not_true, cond_false]
    rw [h_ifirst n (by omega), Option.bind_some, foldLoop es (by omega) (fun _ (s : List Int) => s.length = n) unE id (lab0_len n) (fun i s y _ h => by rw [unE_len]; exact h)]
    · rfl
    · intro self s i y hy hs
      have hi := (List.getElem?_eq_some_iff.1 hy).1
      have he := hin y (List.mem_of_getElem? hy)
      simp only [show ((i : Int) < (es.length : Int)) from by omega, decide_true, cond_true]
      rw [bnd_nat hi, hy, Option.bind_some, h_iunion s y.1 y.2 he.1 (by omega) he.2.2.1 (by omega) (by omega), Option.bind_some, wr1 (by omega)]
    · intro self s _
      simp
theorem h_sLabels (n : Nat) (es : List Ed) (hl : es.length ≤ 1048576) : g_sLabels ((n : Int), es) = some (if grB n es then labs n es else [], ()) := by
  show f_sLabels BIG _ = _
  rw [e_sLabels, w_sGraphOk _ _ hl, Option.bind_some]
  cases hg : grB n es with
  | false => rfl
  | true =>
    simp only [grB, Bool.and_eq_true, inB_t] at hg
    simp only [Bool.not_true, cond_false]
    rw [h_sl05Labels n es (by omega) (eOk_in hg.2) (by omega)]; rfl
def tgB (n : Int) (es : List Ed) (a b : Int) : Bool := grB n es && (inB a 0 (n - 1) && (inB b 0 (n - 1) && decide ((labs n.toNat es).getD a.toNat 0 = (labs n.toNat es).getD b.toNat 0)))
theorem h_iTogether (n : Int) (es : List Ed) (a b : Int) (hl : es.length ≤ 1048576) : g_iTogether ((n, es), a, b) = some (tgB n es a b, ()) := by
  show f_iTogether BIG _ = _
  rw [e_iTogether, w_iGraphOk _ _ hl, Option.bind_some]
  unfold tgB
  cases hg : grB n es with
  | false => rfl
  | true =>
    have hg' := hg
    simp only [grB, Bool.and_eq_true, inB_t] at hg'
    obtain ⟨N, rfl⟩ : ∃ N : Nat, n = N := ⟨n.toNat, by omega⟩
    simp only [Bool.not_true, cond_false, h_iin', Option.bind_some]
    rw [wr (by omega) (by omega)]
    cases ha : inB a 0 ((N : Int) - 1) with
    | false => rfl
    | true =>
      cases hb : inB b 0 ((N : Int) - 1) with
      | false => rfl
      | true =>
        rw [inB_t] at ha hb
        simp only [Bool.not_true, cond_false, Option.bind_some]
        rw [h_iLabels N es hl, hg, if_pos rfl, Option.bind_some]
        have h1 : a.toNat < (labs N es).length := by rw [labs_len]; omega
        have h2 : b.toNat < (labs N es).length := by rw [labs_len]; omega
        simp only
        rw [bnd_ok ha.1 (by omega), getD_at h1, Option.bind_some, bnd_ok hb.1 (by omega), getD_at h2, Option.bind_some]
        rfl
theorem h_sTogether (n : Int) (es : List Ed) (a b : Int) (hl : es.length ≤ 1048576) : g_sTogether ((n, es), a, b) = some (tgB n es a b, ()) := by
  show f_sTogether BIG _ = _
  rw [e_sTogether]
  unfold tgB
  have hs : g_sLabels (n, es) = f_sLabels BIG (n, es) := rfl
  cases hg : grB n es with
  | false =>
    rw [hs, e_sLabels, w_sGraphOk _ _ hl, hg]
    simp only [Option.bind_some, Bool.not_false, cond_true, List.length_nil, h_sl01In']
    rw [wr (by simp) (by simp)]
    have : inB a 0 (((0 : Nat) : Int) - 1) = false := by
      cases h : inB a 0 (((0 : Nat) : Int) - 1) with
      | false => rfl
      | true => rw [inB_t] at h; omega
    rw [this]; rfl
  | true =>
    have hg' := hg
    simp only [grB, Bool.and_eq_true, inB_t] at hg'
    obtain ⟨N, rfl⟩ : ∃ N : Nat, n = N := ⟨n.toNat, by omega⟩
    rw [h_sLabels N es hl, hg, if_pos rfl, Option.bind_some]
    simp only [labs_len, h_sl01In', Option.bind_some]
    rw [wr (by omega) (by omega)]
    cases ha : inB a 0 ((N : Int) - 1) with
    | false => rfl
    | true =>
      cases hb : inB b 0 ((N : Int) - 1) with
      | false => rfl
      | true =>
        rw [inB_t] at ha hb
        simp only [cond_true, Option.bind_some]
        have h1 : a.toNat < (labs N es).length := by rw [labs_len]; omega
        have h2 : b.toNat < (labs N es).length := by rw [labs_len]; omega
        rw [bnd_ok ha.1 (by omega), getD_at h1, Option.bind_some, bnd_ok hb.1 (by omega), getD_at h2, Option.bind_some]
        rfl
def addR (n : Int) (es : List Ed) (e : Ed) : Int × List Ed × Bool := if grB n es && (edB n e && !decide (e ∈ es)) then (n, ins es e, true) else (0, [], false)
def takR (n : Int) (es : List Ed) (e : Ed) : Int × List Ed × Bool := if grB n es && decide (e ∈ es) then (n, del es e, true) else (0, [], false)
theorem w_iAddEdge (n : Int) (es : List Ed) (e : Ed) (hl : es.length ≤ 1048576) : g_iAddEdge ((n, es), e) = some (addR n es e, ()) := by
  have hm : maxLen = 9223372036854775807 := by decide
  show f_iAddEdge BIG _ = _
  rw [e_iAddEdge, w_iGraphOk n es hl, h_iEdgeOk, h_iHasEdge n es e (by omega), h_iwithEdge es e hl]
  unfold addR
  cases hg : grB n es with
  | false => rfl
  | true =>
    cases he : edB n e with
    | false => rfl
    | true =>
      by_cases hin : e ∈ es
      · rw [decide_eq_true hin]; rfl
      · simp only [grB, Bool.and_eq_true] at hg
        rw [decide_eq_false hin, fdI_ins (eOk_srt hg.2).2.1 hin]; rfl
theorem w_sAddEdge (n : Int) (es : List Ed) (e : Ed) (hl : es.length ≤ 1048576) : g_sAddEdge ((n, es), e) = some (addR n es e, ()) := by
  have hm : maxLen = 9223372036854775807 := by decide
  show f_sAddEdge BIG _ = _
  rw [e_sAddEdge, w_sGraphOk n es hl, h_sEdgeOk, h_sHasEdge n es e (by omega), h_sl05Put es e hl]
  unfold addR
  cases hg : grB n es with
  | false => rfl
  | true =>
    cases he : edB n e with
    | false => rfl
    | true => cases decide (e ∈ es) <;> rfl
theorem h_sl05Without (es : List Ed) (e : Ed) (hl : es.length ≤ 1048576) : g_sl05Without (es, e) = some (del es e, ()) := by
  have hm : maxLen = 9223372036854775807 := by decide
  show f_sl05Without BIG _ = _
  rw [e_sl05Without, foldLoop es (by omega) (fun i (c : List Ed) => c.length ≤ i) (fun c y => if (!decide (y = e)) then c ++ [y] else c) id (by simp) (fun i c y _ (h : c.length ≤ i) => by show List.length (if _ then _ else _) ≤ _; split <;> (try simp) <;> omega)]
  · rw [foldl_filter]; rfl
  · intro self c i y hy (hc : c.length ≤ i)
    have hi := (List.getElem?_eq_some_iff.1 hy).1
    simp only [show ((i : Int) < (es.length : Int)) from by omega, decide_true, cond_true]
    rw [bnd_nat hi, hy, Option.bind_some, wr1 (by omega)]
    have hd : (decide (y.1 = e.1) && (decide (y.2 = e.2) && true)) = decide (y = e) := by
      obtain ⟨y1, y2⟩ := y
      obtain ⟨e1, e2⟩ := e
      by_cases h1 : y1 = e1 <;> by_cases h2 : y2 = e2 <;> simp [h1, h2]
    rw [hd]
    cases decide (y = e) with
    | true => simp
    | false => simp [bnd_nat hi, hy, show c.length + 1 ≤ 4294967296 from by omega]
  · intro self c hc
    simp
theorem w_iwithoutEdge (es : List Ed) (e : Ed) (hl : es.length ≤ 1048576) : g_iwithoutEdge (es, e) = some (del es e, ()) := by
  have hm : maxLen = 9223372036854775807 := by decide
  show f_iwithoutEdge BIG _ = _
  rw [e_iwithoutEdge, foldLoop es (by omega) (fun i (c : List Ed) => c.length ≤ i) (fun c y => if (!decide (y = e)) then c ++ [y] else c) id (by simp) (fun i c y _ (h : c.length ≤ i) => by show List.length (if _ then _ else _) ≤ _; split <;> (try simp) <;> omega)]
  · rw [foldl_filter]; rfl
  · intro self c i y hy (hc : c.length ≤ i)
    have hi := (List.getElem?_eq_some_iff.1 hy).1
    simp only [show ((i : Int) < (es.length : Int)) from by omega, decide_true, cond_true]
    rw [bnd_nat hi, hy, Option.bind_some, wr1 (by omega)]
    have hd : (decide (y.1 = e.1) && (decide (y.2 = e.2) && true)) = decide (y = e) := by
      obtain ⟨y1, y2⟩ := y
      obtain ⟨e1, e2⟩ := e
      by_cases h1 : y1 = e1 <;> by_cases h2 : y2 = e2 <;> simp [h1, h2]
    rw [hd]
    cases decide (y = e) with
    | true => simp
    | false => simp [show c.length + 1 ≤ 4294967296 from by omega]
  · intro self c hc
    simp
theorem w_iTakeEdge (n : Int) (es : List Ed) (e : Ed) (hl : es.length ≤ 1048576) : g_iTakeEdge ((n, es), e) = some (takR n es e, ()) := by
  have hm : maxLen = 9223372036854775807 := by decide
  show f_iTakeEdge BIG _ = _
  rw [e_iTakeEdge, w_iGraphOk n es hl, h_iHasEdge n es e (by omega), w_iwithoutEdge es e hl]
  unfold takR
  cases grB n es <;> cases decide (e ∈ es) <;> rfl
theorem w_sTakeEdge (n : Int) (es : List Ed) (e : Ed) (hl : es.length ≤ 1048576) : g_sTakeEdge ((n, es), e) = some (takR n es e, ()) := by
  have hm : maxLen = 9223372036854775807 := by decide
  show f_sTakeEdge BIG _ = _
  rw [e_sTakeEdge, w_sGraphOk n es hl, h_sHasEdge n es e (by omega), h_sl05Without es e hl]
  unfold takR
  cases grB n es <;> cases decide (e ∈ es) <;> rfl
def edO (a b : Int) : Ed := if a < b then (a, b) else (b, a)
theorem h_iedgeOf (i o a b : Int) : g_iedgeOf (i, o, a, b) = some (edO a b, ()) := by
  show f_iedgeOf BIG _ = _
  rw [e_iedgeOf]
  unfold edO
  dsimp only
  by_cases h : a < b
  · rw [if_neg (by omega), if_pos (by omega), if_pos h]
  · rw [if_neg h]
    by_cases h' : b < a
    · rw [if_pos h', if_neg (by omega)]
    · rw [if_neg h', if_neg (by omega), show a = b from by omega]
theorem h_sl12Edge (i o a b : Int) : g_sl12Edge (i, o, a, b) = some (edO a b, ()) := by
  show f_sl12Edge BIG _ = _
  rw [e_sl12Edge]
  unfold edO
  dsimp only
  by_cases h : a < b
  · rw [decide_eq_true h, cond_true, if_pos h]
  · rw [decide_eq_false h, cond_false, if_neg h]
theorem h_icopyEdges (es : List Ed) (hl : es.length ≤ 1048576) : g_icopyEdges es = some (es, ()) := by
  show f_icopyEdges BIG _ = _
  rw [e_icopyEdges, decide_eq_true (by omega)]; rfl
theorem h_iyesNo (b : Bool) : g_iyesNo b = some (if b then 1 else 2, ()) := by
  show f_iyesNo BIG _ = _
  rw [e_iyesNo]; cases b <;> rfl
/-- What a question makes of a graph. -/
def mdl (n : Int) (es : List Ed) (o a b : Int) : Int × List Ed × Int :=
  if inB o 1 4 && (decide (0 ≤ a) && decide (a < n)) then
    if o = 4 then (n, es, if inB b 1 3 then 1 else 3)
    else if (decide (0 ≤ b) && decide (b < n)) && !(decide (a = b) && !decide (o = 3)) then
      if o = 3 then (n, es, if tgB n es a b then 1 else 2)
      else
        let r := if o = 2 then takR n es (edO a b) else addR n es (edO a b)
        if r.2.2 then (r.1, r.2.1, 1) else (n, es, 2)
    else (n, es, 3)
  else (n, es, 3)
theorem h_sModel (n : Int) (es : List Ed) (i o a b : Int) (hl : es.length ≤ 1048576) : g_sModel ((n, es), i, o, a, b) = some (mdl n es o a b, ()) := by
  show f_sModel BIG _ = _
  rw [e_sModel]
  dsimp only
  rw [decide_eq_true (show 0 + es.length ≤ 4294967296 from by omega), cond_true, h_sl01In', List.nil_append]
  simp only [Option.bind_some]
  unfold mdl
  cases ho : inB o 1 4 with
  | false => rfl
  | true =>
    rw [inB_t] at ho
    by_cases h1 : 0 ≤ a
    · by_cases h2 : a < n
      · simp only [h1, h2, decide_true, Bool.not_true, cond_true, cond_false, Option.bind_some, Bool.and_self, if_true]
        by_cases h4 : o = 4
        · rw [decide_eq_true h4, if_pos h4, cond_true, h_sl01In', Option.bind_some]
          cases inB b 1 3 <;> rfl
        · rw [decide_eq_false h4, if_neg h4, cond_false]
          by_cases h5 : 0 ≤ b
          · by_cases h6 : b < n
            · simp only [h5, h6, decide_true, Bool.not_true, cond_true, cond_false, Bool.true_and]
              by_cases h3 : o = 3
              · subst h3
                simp only [decide_true, Bool.not_true, Bool.and_false, Bool.not_false, if_true, cond_true]
                rw [h_sTogether n es a b hl]
                cases decide (a = b) <;> simp only [cond_true, cond_false, Option.bind_some] <;> cases tgB n es a b <;> rfl
              · simp only [h3, decide_false, Bool.not_false, Bool.and_true, cond_false, if_false]
                by_cases hab : a = b
                · rw [decide_eq_true hab]; rfl
                · rw [decide_eq_false hab]
                  simp only [cond_false, Option.bind_some, Bool.not_false, if_true, h_sl12Edge, w_sAddEdge n es _ hl, w_sTakeEdge n es _ hl]
                  by_cases h2' : o = 2
                  · rw [decide_eq_true h2', if_pos h2', cond_true, Option.bind_some]
                    cases h : (takR n es (edO a b)).2.2 <;> simp [h]
                  · rw [decide_eq_false h2', if_neg h2', cond_false, Option.bind_some]
                    cases h : (addR n es (edO a b)).2.2 <;> simp [h]
            · simp only [h5, h6, decide_true, decide_false, Bool.not_false, cond_true, Option.bind_some, Bool.and_false, Bool.false_and, if_false, Bool.false_eq_true]
          · simp only [h5, decide_false, cond_false, Option.bind_some, cond_true, Bool.false_and, if_false, Bool.false_eq_true]
      · simp only [h1, h2, decide_true, decide_false, Bool.not_true, Bool.not_false, cond_true, cond_false, Option.bind_some, Bool.and_false, if_false, Bool.false_eq_true]
    · simp only [h1, decide_false, Bool.not_true, cond_true, cond_false, Option.bind_some, Bool.and_false, Bool.false_and, if_false, Bool.false_eq_true]
theorem h_iModel (n : Int) (es : List Ed) (i o a b : Int) (hn : n ≤ 9223372036854775807) (hl : es.length ≤ 1048576) : g_iModel ((n, es), i, o, a, b) = some (mdl n es o a b, ()) := by
  show f_iModel BIG _ = _
  rw [e_iModel]
  dsimp only
  rw [h_icopyEdges es hl]
  simp only [Option.bind_some, h_iin']
  have hx : (bif decide (o = (4 : Int)) then some ((1 : Int), (3 : Int)) else some ((0 : Int), IntKind.wrap .i64 (n - (1 : Int))) : Option (Int × Int)) = some (if o = 4 then ((1 : Int), (3 : Int)) else ((0 : Int), IntKind.wrap .i64 (n - (1 : Int)))) := by
    by_cases h : o = 4
    · rw [decide_eq_true h, if_pos h]; rfl
    · rw [decide_eq_false h, if_neg h]; rfl
  rw [hx, Option.bind_some]
  unfold mdl
  by_cases h0 : n < 1
  · rw [decide_eq_true h0, cond_true, Option.bind_some, cond_true]
    have : (decide (0 ≤ a) && decide (a < n)) = false := by
      by_cases h : 0 ≤ a
      · rw [decide_eq_false (show ¬ a < n from by omega), Bool.and_false]
      · rw [decide_eq_false h, Bool.false_and]
    rw [this, Bool.and_false]; rfl
  · rw [decide_eq_false h0, cond_false, wr (by omega) (by omega)]
    cases ho : inB o 1 4 with
    | false => rfl
    | true =>
      rw [inB_t] at ho
      have ha : inB a 0 (n - 1) = (decide (0 ≤ a) && decide (a < n)) := by
        unfold inB
        congr 1
        exact decide_eq_decide.2 (by omega)
      have hb : inB b 0 (n - 1) = (decide (0 ≤ b) && decide (b < n)) := by
        unfold inB
        congr 1
        exact decide_eq_decide.2 (by omega)
      rw [ha]
      simp only [Bool.not_true, cond_false, Bool.true_and]
      cases (decide (0 ≤ a) && decide (a < n)) with
      | false => rfl
      | true =>
        simp only [Bool.not_true, cond_false, if_true]
        by_cases h4 : o = 4
        · subst h4
          simp only [if_true]
          cases inB b 1 3 with
          | false => rfl
          | true => by_cases hab : a = b <;> simp [hab]
        · simp only [h4, if_false]
          rw [hb]
          cases (decide (0 ≤ b) && decide (b < n)) with
          | false => rfl
          | true =>
            simp only [Bool.not_true, cond_false, Bool.true_and]
            by_cases h3 : o = 3
            · subst h3
              rw [h_iTogether n es a b hl]
              simp only [Option.bind_some, h_iyesNo]
              by_cases hab : a = b <;> simp [hab]
            · by_cases h1 : o = 1
              · subst h1
                by_cases hab : a = b
                · simp [hab]
                · simp only [hab, decide_false, cond_false, Option.bind_some, decide_true, cond_true, h_iedgeOf, w_iAddEdge n es _ hl]
                  simp
                  cases h : (addR n es (edO a b)).2.2 <;> simp [h]
              · have h2 : o = 2 := by omega
                subst h2
                by_cases hab : a = b
                · simp [hab]
                · simp only [hab, decide_false, cond_false, Option.bind_some, decide_true, cond_true, h_iedgeOf, w_iTakeEdge n es _ hl]
                  simp
                  cases h : (takR n es (edO a b)).2.2 <;> simp [h]
theorem mdl_len (n : Int) (es : List Ed) (o a b : Int) (m : Nat) (hm : 67 ≤ m) (hl : es.length ≤ m) : (mdl n es o a b).2.1.length ≤ m ∧ (mdl n es o a b).1 = n := by
  have ha : ∀ e, (addR n es e).2.2 = true → (addR n es e).2.1.length ≤ 67 ∧ (addR n es e).1 = n := by
    intro e h
    unfold addR at h ⊢
    split at h
    · rename_i hc
      rw [if_pos hc]
      simp only [Bool.and_eq_true, grB] at hc
      have := eOk_len hc.1.2
      have := ins_len es e
      exact ⟨by simp only; omega, rfl⟩
    · cases h
  have ht : ∀ e, (takR n es e).2.2 = true → (takR n es e).2.1.length ≤ 67 ∧ (takR n es e).1 = n := by
    intro e h
    unfold takR at h ⊢
    split at h
    · rename_i hc
      rw [if_pos hc]
      simp only [Bool.and_eq_true, grB] at hc
      have := eOk_len hc.1.2
      have := del_len es e
      exact ⟨by simp only; omega, rfl⟩
    · cases h
  unfold mdl
  split
  · split
    · exact ⟨hl, rfl⟩
    · split
      · split
        · exact ⟨hl, rfl⟩
        · by_cases h2 : o = 2
          · simp only [h2, if_true]
            by_cases hr : (takR n es (edO a b)).2.2 = true
            · rw [if_pos hr]
              have := ht _ hr
              exact ⟨by simp only; omega, this.2⟩
            · rw [if_neg hr]; exact ⟨hl, rfl⟩
          · simp only [h2, if_false]
            by_cases hr : (addR n es (edO a b)).2.2 = true
            · rw [if_pos hr]
              have := ha _ hr
              exact ⟨by simp only; omega, this.2⟩
            · rw [if_neg hr]; exact ⟨hl, rfl⟩
      · exact ⟨hl, rfl⟩
  · exact ⟨hl, rfl⟩
theorem law_lFnExactModel (x0 : Int) (x1 : List Ed) (i o a b : Int) (w0 : -9223372036854775808 ≤ x0 ∧ x0 ≤ 9223372036854775807) (q1 : x1.length ≤ maxLen) : g_lFnExactModel ((x0, x1), i, o, a, b) = some (true, ()) := by
  show f_lFnExactModel BIG _ = _
  rw [e_lFnExactModel]
  have hs := sz_Graph x0 x1 1048576 (by omega) (by omega) q1
  by_cases hz : ((x1.length : Nat) : Int) ≤ 1048576
  case neg =>
    rw [if_neg hz] at hs
    rw [hs]; rfl
  rw [if_pos hz] at hs
  have hz' : x1.length ≤ 1048576 := by omega
  obtain ⟨t1, c, m, d, l, u⟩ := mh_Graph x0 x1 1 (by omega) (by omega) (by omega)
  have hl := (mdl_len x0 x1 o a b 1048576 (by omega) hz').1
  have hi := h_iModel x0 x1 i o a b w0.2 hz'
  have hsp := h_sModel x0 x1 i o a b hz'
  generalize mdl x0 x1 o a b = r at hl hi hsp
  obtain ⟨r0, r1, r2⟩ := r
  obtain ⟨t1', c', m', d', l', u'⟩ := mh_Graph r0 r1 1 (by omega) (by omega) (by simp only at hl; omega)
  simp only at hl
  simp only [hs, Option.bind_some, decide_eq_false (show ¬ ((1048576 : Int) - ((x1.length : Nat) : Int) < 0) from by omega), cond_false, to_Graph x0 x1 hz', to_Ask i o a b, hi, hsp, eq_Graph r0 r1 (by omega), eq_Graph x0 x1 (by omega), decide_true, Bool.not_true, m, neg_f l, m', d', neg_f l']
end Go.Fw
