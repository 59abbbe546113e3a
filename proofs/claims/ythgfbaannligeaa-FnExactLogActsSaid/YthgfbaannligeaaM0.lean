/- What the given functions come to. No conditions. -/
import Derived.Test.YthgfbaannligeaaX1
import Derived.IntWalk
set_option linter.unusedVariables false
set_option linter.unusedSimpArgs false
namespace Go.Fw

theorem loop_rel {X B : Type} {F : (X → Option B) → X → Option B} (I : X → Prop) (μ : X → Nat) (Q : X → B → Prop)
    (h : ∀ self x, I x → (∀ y, I y → μ y < μ x → ∃ b, self y = some b ∧ Q y b) → ∃ b, F self x = some b ∧ Q x b) : ∀ {n : Nat} {x : X}, μ x < n → I x → ∃ b, loopT n F x = some b ∧ Q x b
  | 0, _, hn, _ => absurd hn (Nat.not_lt_zero _)
  | n + 1, x, hn, hi => h (it F n) x hi fun _ hy hm => loop_rel I μ Q h (n := n) (by omega) hy
theorem loop_eq {X B : Type} {F : (X → Option B) → X → Option B} (I : X → Prop) (μ : X → Nat) (R : X → B)
    (h : ∀ self x, I x → (∀ y, I y → μ y < μ x → self y = some (R y)) → F self x = some (R x)) {n : Nat} {x : X} (hn : μ x < n) (hi : I x) : loopT n F x = some (R x) := by
  obtain ⟨b, h1, h2⟩ := loop_rel (F := F) I μ (fun x b => b = R x) (fun self x hx hs => ⟨_, h self x hx fun y hy hm => by obtain ⟨b, h1, h2⟩ := hs y hy hm; rw [h1, h2], rfl⟩) hn hi
  rw [h1, h2]
theorem wr {n : Int} (h : -9223372036854775808 ≤ n) (h' : n ≤ 9223372036854775807) : IntKind.wrap .i64 n = n := by
  rw [IntKind.wrap_i64]; omega
theorem wr1 {i : Nat} (h : i < maxLen) : IntKind.wrap .i64 ((i : Int) + 1) = ((i + 1 : Nat) : Int) := by
  have : maxLen = 9223372036854775807 := by decide
  rw [wr (by omega) (by omega)]; rfl
theorem bnd_ok {B : Type} {len : Nat} {i : Int} {k : Nat → Option B} (h : 0 ≤ i) (h' : i < len) : bnd len i k = k i.toNat := by
  unfold bnd
  rw [if_pos ⟨h, by omega⟩]
theorem bnd_nat {B : Type} {len : Nat} {i : Nat} {k : Nat → Option B} (h' : i < len) : bnd len (i : Int) k = k i := by
  rw [bnd_ok (Int.natCast_nonneg i) (by omega)]
  simp
/-- A loop that copies a row. -/
theorem cpLoop {α : Type} (a : List α) (hl : a.length < 18446744073709551616) {z : α} {F : (List α × Int → Option (List α)) → List α × Int → Option (List α)}
    (hF : ∀ self out (i : Nat) y, out.length = a.length → a[i]? = some y → F self (out, (i : Int)) = self (out.set i y, ((i + 1 : Nat) : Int)))
    (hE : ∀ self out, out.length = a.length → F self (out, (a.length : Int)) = some out) : loopT BIG F (List.replicate a.length z, 0) = some a := by
  have := loop_eq (F := F) (fun x => ∃ i : Nat, x.2 = i ∧ i ≤ a.length ∧ x.1.length = a.length ∧ x.1.take i = a.take i) (fun x => a.length - x.2.toNat) (fun _ => a) (fun self x ⟨i, h1, h2, h3, h4⟩ hs => ?_) (n := BIG) (x := (List.replicate a.length z, 0)) (by simp; exact hl) ⟨0, rfl, by simp, by simp, by simp⟩
  · exact this
  · obtain ⟨out, j⟩ := x
    simp only at h1 h2 h3 h4
    subst h1
    by_cases hi : i < a.length
    · rw [hF self out i a[i] h3 (List.getElem?_eq_getElem hi)]
      refine hs _ ⟨i + 1, rfl, hi, by simpa using h3, ?_⟩ (by simp; omega)
      rw [List.take_set, List.take_succ_eq_append_getElem (by omega : i < out.length), List.take_succ_eq_append_getElem hi, h4, List.set_append_right _ _ (by simp; omega)]
      simp [Nat.min_eq_left h2]
    · have : i = a.length := by omega
      subst this
      rw [hE self out h3]
      rw [List.take_of_length_le (by omega), List.take_of_length_le (by omega)] at h4
      rw [h4]
/-- A loop that goes through a row, and is left at the first place where it is told so. -/
theorem allLoop {α B : Type} (a : List α) (hl : a.length < 18446744073709551616) {F : (Int → Option (Unit ⊕ B)) → Int → Option (Unit ⊕ B)} (p : Nat → Bool) (b : B)
    (hF : ∀ self (i : Nat) y, a[i]? = some y → F self (i : Int) = if p i then self ((i + 1 : Nat) : Int) else some (.inr b))
    (hE : ∀ self, F self (a.length : Int) = some (.inl ())) : loopT BIG F 0 = some (if ∀ i, i < a.length → p i = true then .inl () else .inr b) := by
  have hh := loop_rel (F := F) (fun x => ∃ i : Nat, x = i ∧ i ≤ a.length) (fun x => a.length - x.toNat) (fun x r => ((∀ i : Nat, x ≤ (i : Int) → i < a.length → p i = true) ∧ r = .inl ()) ∨ ((∃ i : Nat, i < a.length ∧ p i = false) ∧ r = .inr b)) (fun self x ⟨i, h1, h2⟩ hs => ?_) (n := BIG) (x := 0) (by simp; exact hl) ⟨0, rfl, by simp⟩
  · obtain ⟨r, hr, hq⟩ := hh
    rw [hr]
    congr 1
    rcases hq with ⟨h1, rfl⟩ | ⟨⟨i, h1, h2⟩, rfl⟩
    · rw [if_pos fun i hi => h1 i (by omega) hi]
    · rw [if_neg]
      intro h
      rw [h i h1] at h2; cases h2
  · subst h1
    by_cases hi : i < a.length
    · rw [hF self i a[i] (List.getElem?_eq_getElem hi)]
      cases hp : p i with
      | true =>
        rw [if_pos rfl]
        obtain ⟨r, hr, hq⟩ := hs _ ⟨i + 1, rfl, hi⟩ (by simp; omega)
        refine ⟨r, hr, ?_⟩
        rcases hq with ⟨h1, rfl⟩ | h1
        · refine .inl ⟨fun k hk hk' => ?_, rfl⟩
          by_cases h : k = i
          · subst h; exact hp
          · exact h1 k (by omega) hk'
        · exact .inr h1
      | false => exact ⟨_, rfl, .inr ⟨⟨i, hi, hp⟩, rfl⟩⟩
    · have : i = a.length := by omega
      subst this
      exact ⟨_, hE self, .inl ⟨fun k hk hk' => by omega, rfl⟩⟩
theorem maxLen_lt : maxLen < 18446744073709551616 := by decide
/-- Two rows that are looked at side by side. -/
theorem eqLoop {α B : Type} [DecidableEq α] (a b : List α) (hl : a.length ≤ maxLen) (hab : a.length = b.length) {F : (Int → Option (Unit ⊕ B)) → Int → Option (Unit ⊕ B)} (r : B)
    (hF : ∀ self (i : Nat) x y, a[i]? = some x → b[i]? = some y → F self (i : Int) = if x = y then self ((i + 1 : Nat) : Int) else some (.inr r))
    (hE : ∀ self, F self (a.length : Int) = some (.inl ())) : loopT BIG F 0 = some (if a = b then .inl () else .inr r) := by
  rw [allLoop a (Nat.lt_of_le_of_lt hl maxLen_lt) (fun i => decide (a[i]? = b[i]?)) r (fun self i y hy => ?_) hE]
  · congr 1
    by_cases h : a = b
    · subst h; simp
    · rw [if_neg h, if_neg]
      intro h'
      apply h
      apply List.ext_getElem? fun i => ?_
      by_cases hi : i < a.length
      · simpa using h' i hi
      · rw [List.getElem?_eq_none (by omega), List.getElem?_eq_none (by omega)]
  · have hi := (List.getElem?_eq_some_iff.1 hy).1
    have hb : b[i]? = some (b[i]'(by omega)) := List.getElem?_eq_getElem (by omega)
    rw [hF self i y _ hy hb, hy, hb]
    simp
/-- A loop that goes through a row and keeps an account. -/
theorem foldLoop {α S B : Type} (a : List α) (hl : a.length < 18446744073709551616) {F : (S × Int → Option B) → S × Int → Option B} (I : Nat → S → Prop) (st : S → α → S) (R : S → B) {s0 : S} (h0 : I 0 s0)
    (hI : ∀ i s y, a[i]? = some y → I i s → I (i + 1) (st s y)) (hF : ∀ self s (i : Nat) y, a[i]? = some y → I i s → F self (s, (i : Int)) = self (st s y, ((i + 1 : Nat) : Int)))
    (hE : ∀ self s, I a.length s → F self (s, (a.length : Int)) = some (R s)) : loopT BIG F (s0, 0) = some (R (a.foldl st s0)) := by
  have := loop_eq (F := F) (fun x => ∃ i : Nat, x.2 = i ∧ i ≤ a.length ∧ I i x.1) (fun x => a.length - x.2.toNat) (fun x => R ((a.drop x.2.toNat).foldl st x.1)) (fun self x ⟨i, h1, h2, h3⟩ hs => ?_) (n := BIG) (x := (s0, 0)) (by simp; exact hl) ⟨0, rfl, by simp, h0⟩
  · simpa using this
  · obtain ⟨s, j⟩ := x
    simp only at h1 h2 h3
    subst h1
    by_cases hi : i < a.length
    · have hy := List.getElem?_eq_getElem hi
      rw [hF self s i a[i] hy h3, hs _ ⟨i + 1, rfl, hi, hI _ _ _ hy h3⟩ (by simp; omega)]
      simp only [Int.toNat_natCast]
      rw [List.drop_eq_getElem_cons hi, List.foldl_cons]
    · have : i = a.length := by omega
      subst this
      rw [hE self s h3]
      simp
/-- A row bears marks that go from a number to a number. -/
def HdL {α : Type} (hd : Int → α → Int → Prop) : Int → List α → Int → Prop
  | k, [], k' => k' = k
  | k, z :: t, k' => ∃ k1, hd k z k1 ∧ HdL hd k1 t k'
theorem HdL.snoc {α : Type} {hd : Int → α → Int → Prop} : ∀ {t : List α} {k k1 k2 : Int} {z : α}, HdL hd k t k1 → hd k1 z k2 → HdL hd k (t ++ [z]) k2
  | [], _, _, _, _, h, h' => by cases h; exact ⟨_, h', rfl⟩
  | _ :: _, _, _, _, _, ⟨k3, h1, h2⟩, h' => ⟨k3, h1, h2.snoc h'⟩
/-- A loop that marks each of a row. -/
theorem mkLoop {α : Type} (hd : Int → α → Int → Prop) (C : Int) (hC : 0 ≤ C) (a : List α) (k0 : Int) (hl : a.length < 18446744073709551616)
    {F : (List α × Int × Int → Option (List α × Int)) → List α × Int × Int → Option (List α × Int)}
    (hF : ∀ self out (i : Nat) (k : Int) y, i < a.length → out.length = a.length → out[i]? = some y → a[i]? = some y → k0 ≤ k → k ≤ k0 + C * i →
      ∃ z k', hd k z k' ∧ k ≤ k' ∧ k' ≤ k + C ∧ F self (out, k, (i : Int)) = self (out.set i z, k', ((i + 1 : Nat) : Int)))
    (hE : ∀ self out k, out.length = a.length → F self (out, k, (a.length : Int)) = some (out, k)) :
    ∃ t k', loopT BIG F (a, k0, 0) = some (t, k') ∧ HdL hd k0 t k' ∧ t.length = a.length ∧ k0 ≤ k' ∧ k' ≤ k0 + C * a.length := by
  have := loop_rel (F := F) (fun x => ∃ (i : Nat) (t : List α), x.2.2 = i ∧ i ≤ a.length ∧ t.length = i ∧ x.1 = t ++ a.drop i ∧ HdL hd k0 t x.2.1 ∧ k0 ≤ x.2.1 ∧ x.2.1 ≤ k0 + C * i) (fun x => a.length - x.2.2.toNat)
    (fun _ r => HdL hd k0 r.1 r.2 ∧ r.1.length = a.length ∧ k0 ≤ r.2 ∧ r.2 ≤ k0 + C * a.length) (fun self x ⟨i, t, h1, h2, h3, h4, h5, h6, h7⟩ hs => ?_) (n := BIG) (x := (a, k0, 0)) (by simp; exact hl)
    ⟨0, [], rfl, by simp, rfl, by simp, rfl, Int.le_refl _, by simp⟩
  · obtain ⟨⟨t, k'⟩, h1, h2⟩ := this
    exact ⟨t, k', h1, h2⟩
  · obtain ⟨out, k, j⟩ := x
    simp only at h1 h4 h5 h6 h7
    subst h1 h3
    have hlen : out.length = a.length := by rw [h4]; simp; omega
    by_cases hi : t.length < a.length
    · have hy := List.getElem?_eq_getElem hi
      have ho : out[t.length]? = a[t.length]? := by rw [h4, List.getElem?_append_right (Nat.le_refl _)]; simp
      obtain ⟨z, k', g1, g2, g3, g4⟩ := hF self out t.length k _ hi hlen (by rw [ho, hy]) hy h6 h7
      rw [g4]
      have e : out.set t.length z = (t ++ [z]) ++ a.drop (t.length + 1) := by
        rw [h4, List.set_append_right _ _ (Nat.le_refl _), Nat.sub_self, List.drop_eq_getElem_cons hi, List.set_cons_zero, List.append_assoc]
        rfl
      have hm : C * ((t.length + 1 : Nat) : Int) = C * (t.length : Int) + C := by rw [Int.natCast_add, Int.mul_add]; simp
      exact hs _ ⟨t.length + 1, t ++ [z], rfl, hi, by simp, e, h5.snoc g1, by simp only; omega, by simp only; omega⟩ (by simp only [Int.toNat_natCast]; omega)
    · have hi' : t.length = a.length := by omega
      rw [hi', hE self out k hlen]
      rw [hi', List.drop_length, List.append_nil] at h4
      subst h4
      exact ⟨_, rfl, h5, hi', h6, by rw [← hi']; exact h7⟩
/-- A loop that holds a row against its marks. -/
theorem hdLoop {α B : Type} (hd : Int → α → Int → Prop) (a : List α) (k0 k9 : Int) (hl : a.length < 18446744073709551616) (h : HdL hd k0 a k9)
    {F : (Int × Int → Option (Int ⊕ B)) → Int × Int → Option (Int ⊕ B)}
    (hF : ∀ self (i : Nat) (k k' : Int) z, a[i]? = some z → hd k z k' → F self (k, (i : Int)) = self (k', ((i + 1 : Nat) : Int)))
    (hE : ∀ self k, F self (k, (a.length : Int)) = some (.inl k)) : loopT BIG F (k0, 0) = some (.inl k9) := by
  have := loop_eq (F := F) (fun x => ∃ i : Nat, x.2 = i ∧ i ≤ a.length ∧ HdL hd x.1 (a.drop i) k9) (fun x => a.length - x.2.toNat) (fun _ => .inl k9) (fun self x ⟨i, h1, h2, h3⟩ hs => ?_) (n := BIG) (x := (k0, 0)) (by simp; exact hl) ⟨0, rfl, by simp, by simpa using h⟩
  · exact this
  · obtain ⟨k, j⟩ := x
    simp only at h1 h3
    subst h1
    by_cases hi : i < a.length
    · rw [List.drop_eq_getElem_cons hi] at h3
      obtain ⟨k1, g1, g2⟩ := h3
      rw [hF self i k k1 _ (List.getElem?_eq_getElem hi) g1]
      exact hs _ ⟨i + 1, rfl, hi, g2⟩ (by simp; omega)
    · have : i = a.length := by omega
      subst this
      rw [List.drop_length] at h3
      cases h3
      exact hE self _
/-- A loop that takes from what is left. -/
theorem szLoop {α B : Type} (a : List α) (z : α → Nat) (b : B) (l0 : Int) (h0 : 0 ≤ l0) (h0' : l0 ≤ 1048576) (hl : a.length < 18446744073709551616) {F : (Int × Int → Option (Int ⊕ B)) → Int × Int → Option (Int ⊕ B)}
    (hF : ∀ self (i : Nat) (l : Int) y, a[i]? = some y → 0 ≤ l → l ≤ 1048576 → F self (l, (i : Int)) = if (z y : Int) ≤ l then self (l - z y, ((i + 1 : Nat) : Int)) else some (.inr b))
    (hE : ∀ self l, F self (l, (a.length : Int)) = some (.inl l)) :
    loopT BIG F (l0, 0) = some (if ((a.map z).sum : Int) ≤ l0 then .inl (l0 - ((a.map z).sum : Nat)) else .inr b) := by
  have := loop_eq (F := F) (fun x => ∃ i : Nat, x.2 = i ∧ i ≤ a.length ∧ 0 ≤ x.1 ∧ x.1 ≤ 1048576) (fun x => a.length - x.2.toNat) (fun x => if (((a.drop x.2.toNat).map z).sum : Int) ≤ x.1 then .inl (x.1 - (((a.drop x.2.toNat).map z).sum : Nat)) else .inr b)
    (fun self x ⟨i, h1, h2, h3, h4⟩ hs => ?_) (n := BIG) (x := (l0, 0)) (by simp; exact hl) ⟨0, rfl, by simp, h0, h0'⟩
  · simpa using this
  · obtain ⟨l, j⟩ := x
    simp only at h1 h3 h4
    subst h1
    simp only [Int.toNat_natCast]
    by_cases hi : i < a.length
    · have hy := List.getElem?_eq_getElem hi
      rw [hF self i l _ hy h3 h4, List.drop_eq_getElem_cons hi, List.map_cons, List.sum_cons]
      by_cases hz : (z a[i] : Int) ≤ l
      · rw [if_pos hz, hs _ ⟨i + 1, rfl, hi, by simp only; omega, by simp only; omega⟩ (by simp only [Int.toNat_natCast]; omega)]
        simp only [Int.toNat_natCast]
        by_cases hq : (((a.drop (i + 1)).map z).sum : Int) ≤ l - z a[i]
        · rw [if_pos hq, if_pos (by omega)]
          congr 2
          omega
        · rw [if_neg hq, if_neg (by omega)]
      · rw [if_neg hz, if_neg (by omega)]
    · have : i = a.length := by omega
      subst this
      rw [hE self l, List.drop_length]
      simp [h3]
/-- Two vertices hang together by edges. -/
inductive Con (E : List (Int × Int)) : Int → Int → Prop
  | refl (v : Int) : Con E v v
  | fwd {u v w : Int} : Con E u v → (v, w) ∈ E → Con E u w
  | bwd {u v w : Int} : Con E u v → (w, v) ∈ E → Con E u w
theorem Con.trans {E : List (Int × Int)} {u v w : Int} (h : Con E u v) (h' : Con E v w) : Con E u w := by
  induction h' with
  | refl => exact h
  | fwd _ he ih => exact .fwd ih he
  | bwd _ he ih => exact .bwd ih he
theorem Con.symm {E : List (Int × Int)} {u v : Int} (h : Con E u v) : Con E v u := by
  induction h with
  | refl => exact .refl _
  | fwd _ he ih => exact Con.trans (.bwd (.refl _) he) ih
  | bwd _ he ih => exact Con.trans (.fwd (.refl _) he) ih
theorem Con.mono {E E' : List (Int × Int)} (hE : ∀ e, e ∈ E → e ∈ E') {u v : Int} (h : Con E u v) : Con E' u v := by
  induction h with
  | refl => exact .refl _
  | fwd _ he ih => exact .fwd ih (hE _ he)
  | bwd _ he ih => exact .bwd ih (hE _ he)
theorem Con.of {E : List (Int × Int)} {u v : Int} (h : (u, v) ∈ E) : Con E u v := .fwd (.refl _) h
theorem Con.nil {u v : Int} (h : Con [] u v) : u = v := by
  induction h with
  | refl => rfl
  | fwd _ he _ => cases he
  | bwd _ he _ => cases he
theorem Con.snoc {E : List (Int × Int)} {a b u v : Int} : Con (E ++ [(a, b)]) u v ↔ Con E u v ∨ (Con E u a ∧ Con E b v) ∨ (Con E u b ∧ Con E a v) := by
  constructor
  · intro h
    induction h with
    | refl => exact .inl (.refl _)
    | fwd _ he ih =>
      rcases List.mem_append.1 he with h1 | h1
      · rcases ih with h | ⟨h, h'⟩ | ⟨h, h'⟩
        · exact .inl (.fwd h h1)
        · exact .inr (.inl ⟨h, .fwd h' h1⟩)
        · exact .inr (.inr ⟨h, .fwd h' h1⟩)
      · cases List.mem_singleton.1 h1
        rcases ih with h | ⟨h, h'⟩ | ⟨h, h'⟩
        · exact .inr (.inl ⟨h, .refl _⟩)
        · exact .inr (.inl ⟨h, .refl _⟩)
        · exact .inl h
    | bwd _ he ih =>
      rcases List.mem_append.1 he with h1 | h1
      · rcases ih with h | ⟨h, h'⟩ | ⟨h, h'⟩
        · exact .inl (.bwd h h1)
        · exact .inr (.inl ⟨h, .bwd h' h1⟩)
        · exact .inr (.inr ⟨h, .bwd h' h1⟩)
      · cases List.mem_singleton.1 h1
        rcases ih with h | ⟨h, h'⟩ | ⟨h, h'⟩
        · exact .inr (.inr ⟨h, .refl _⟩)
        · exact .inl h
        · exact .inr (.inr ⟨h, .refl _⟩)
  · have hm : ∀ {x y : Int}, Con E x y → Con (E ++ [(a, b)]) x y := fun h => h.mono fun e he => List.mem_append_left _ he
    have hab : Con (E ++ [(a, b)]) a b := .of (List.mem_append_right _ (List.mem_singleton.2 rfl))
    rintro (h | ⟨h, h'⟩ | ⟨h, h'⟩)
    · exact hm h
    · exact (hm h).trans (hab.trans (hm h'))
    · exact (hm h).trans (hab.symm.trans (hm h'))
/-- Edges of so many vertices. -/
def EIn (n : Nat) (E : List (Int × Int)) : Prop := ∀ e, e ∈ E → 0 ≤ e.1 ∧ e.1 < n ∧ 0 ≤ e.2 ∧ e.2 < n
theorem Con.range {n : Nat} {E : List (Int × Int)} (hE : EIn n E) {u v : Int} (h : Con E u v) (hu : 0 ≤ u ∧ u < n) : 0 ≤ v ∧ v < n := by
  induction h with
  | refl => exact hu
  | fwd _ he _ => exact ⟨(hE _ he).2.2.1, (hE _ he).2.2.2⟩
  | bwd _ he _ => exact ⟨(hE _ he).1, (hE _ he).2.1⟩
/-- Labels: to each vertex the least one that it hangs together with. -/
def Lab (n : Nat) (E : List (Int × Int)) (l : List Int) : Prop :=
  l.length = n ∧ ∀ (v : Nat) (x : Int), l[v]? = some x → Con E v x ∧ 0 ≤ x ∧ ∀ u : Int, 0 ≤ u → Con E v u → x ≤ u
theorem Lab.le {n : Nat} {E : List (Int × Int)} {l : List Int} (h : Lab n E l) {v : Nat} {x : Int} (hx : l[v]? = some x) : x ≤ v :=
  (h.2 v x hx).2.2 v (Int.natCast_nonneg v) (.refl _)
theorem Lab.lt {n : Nat} {E : List (Int × Int)} {l : List Int} (h : Lab n E l) {v : Nat} {x : Int} (hx : l[v]? = some x) : 0 ≤ x ∧ x < n := by
  have h1 := h.le hx
  have h2 := (List.getElem?_eq_some_iff.1 hx).1
  have h3 := (h.2 v x hx).2.1
  have h4 := h.1
  omega
theorem Lab.iff {n : Nat} {E : List (Int × Int)} {l : List Int} (h : Lab n E l) {u v : Nat} {x y : Int} (hx : l[u]? = some x) (hy : l[v]? = some y) : x = y ↔ Con E u v := by
  have h1 := h.2 u x hx
  have h2 := h.2 v y hy
  constructor
  · intro e
    subst e
    exact h1.1.trans h2.1.symm
  · intro c
    have a := h1.2.2 y h2.2.1 (c.trans h2.1)
    have b := h2.2.2 x h1.2.1 (c.symm.trans h1.1)
    omega
/-- A label is its own label. -/
theorem Lab.self {n : Nat} {E : List (Int × Int)} {l : List Int} (h : Lab n E l) {v : Nat} {x : Int} (hx : l[v]? = some x) : l[x.toNat]? = some x := by
  have h1 := h.lt hx
  have hi : x.toNat < l.length := by rw [h.1]; omega
  rw [List.getElem?_eq_getElem hi]
  have h2 := h.2 v x hx
  have hc : Con E (x.toNat : Int) v := by rw [Int.toNat_of_nonneg h1.1]; exact h2.1.symm
  rw [(h.iff (List.getElem?_eq_getElem hi) hx).2 hc]
/-- Labels without edges. -/
def lab0 (n : Nat) : List Int := (List.range n).map fun (i : Nat) => (i : Int)
theorem lab0_get {n v : Nat} {x : Int} (h : (lab0 n)[v]? = some x) : v < n ∧ x = v := by
  have hi := (List.getElem?_eq_some_iff.1 h).1
  simp only [lab0, List.length_map, List.length_range] at hi
  simp only [lab0, List.getElem?_map, List.getElem?_range hi, Option.map_some, Option.some.injEq] at h
  exact ⟨hi, h.symm⟩
theorem lab0_len (n : Nat) : (lab0 n).length = n := by simp [lab0]
theorem Lab.zero (n : Nat) : Lab n [] (lab0 n) := by
  refine ⟨lab0_len n, fun v x h => ?_⟩
  obtain ⟨_, rfl⟩ := lab0_get h
  exact ⟨.refl _, Int.natCast_nonneg v, fun u _ h => by rw [h.nil]; exact Int.le_refl _⟩
section
variable {n : Nat} {E : List (Int × Int)} {L : List Int}
/-- On the way down to the labels. -/
def Dn (n : Nat) (E : List (Int × Int)) (l : List Int) : Prop := l.length = n ∧ ∀ (v : Nat) (x : Int), l[v]? = some x → Con E v x ∧ 0 ≤ x
theorem Dn.set {l : List Int} (h : Dn n E l) {v : Nat} {x : Int} (hc : Con E v x) (h0 : 0 ≤ x) : Dn n E (l.set v x) := by
  refine ⟨by simp [h.1], fun u y hu => ?_⟩
  rw [List.getElem?_set] at hu
  split at hu
  · subst v
    split at hu
    · cases hu; exact ⟨hc, h0⟩
    · cases hu
  · exact h.2 u y hu
end
theorem h_sl01In (a b c : Int) : g_sl01In (a, b, c) = some (decide (b ≤ a) && decide (a ≤ c), ()) := by
  show f_sl01In BIG _ = _
  rw [e_sl01In]
  cases decide (b ≤ a) <;> rfl
theorem h_iin (a b c : Int) : g_iin (a, b, c) = some (decide (b ≤ a) && decide (a ≤ c), ()) := by
  show f_iin BIG _ = _
  rw [e_iin]
  cases decide (b ≤ a) <;> rfl
abbrev Ed := Int × Int
open Classical in
def inB (a b c : Int) : Bool := decide (b ≤ a) && decide (a ≤ c)
theorem h_sl01In' (a b c : Int) : g_sl01In (a, b, c) = some (inB a b c, ()) := h_sl01In a b c
theorem h_iin' (a b c : Int) : g_iin (a, b, c) = some (inB a b c, ()) := h_iin a b c
theorem inB_t {a b c : Int} : inB a b c = true ↔ b ≤ a ∧ a ≤ c := by simp [inB]
def edB (n : Int) (e : Ed) : Bool := inB n 1 12 && (inB e.1 0 (n - 1) && (inB e.2 0 (n - 1) && decide (e.1 < e.2)))
theorem h_iEdgeOk (n : Int) (e : Ed) : g_iEdgeOk (n, e) = some (edB n e, ()) := by
  show f_iEdgeOk BIG _ = _
  rw [e_iEdgeOk, h_iin', Option.bind_some]
  unfold edB
  cases h : inB n 1 12 with
  | false => rfl
  | true =>
    have := inB_t.1 h
    rw [wr (by omega) (by omega)]
    simp only [h_iin', Option.bind_some, cond_true, Bool.true_and]
    cases inB e.1 0 (n - 1) <;> cases inB e.2 0 (n - 1) <;> rfl
theorem h_sEdgeOk (n : Int) (e : Ed) : g_sEdgeOk (n, e) = some (edB n e, ()) := by
  show f_sEdgeOk BIG _ = _
  rw [e_sEdgeOk, h_sl01In', Option.bind_some]
  unfold edB
  cases h : inB n 1 12 with
  | false => rfl
  | true =>
    have := inB_t.1 h
    rw [wr (by omega) (by omega)]
    simp only [h_sl01In', Option.bind_some, cond_true, Bool.true_and]
    cases inB e.1 0 (n - 1) <;> cases inB e.2 0 (n - 1) <;> rfl
def lsB (x y : Ed) : Bool := decide (x.1 < y.1) || (decide (x.1 = y.1) && decide (x.2 < y.2))
theorem h_iahead (x y : Ed) : g_iahead (x, y) = some (lsB x y, ()) := by
  show f_iahead BIG _ = _
  rw [e_iahead]
  unfold lsB
  cases decide (x.1 < y.1) <;> cases decide (x.1 = y.1) <;> rfl
theorem h_sl05Less (x y : Ed) : g_sl05Less (x, y) = some (lsB x y, ()) := by
  show f_sl05Less BIG _ = _
  rw [e_sl05Less]
  unfold lsB
  cases decide (x.1 < y.1) <;> cases decide (x.1 = y.1) <;> rfl
def eP (n : Int) (es : List Ed) (i : Nat) : Bool := match es[i]? with
  | some y => edB n y && (match i with
    | 0 => true
    | j + 1 => match es[j]? with
      | some x => lsB x y
      | none => false)
  | none => false
theorem eP_0 {n : Int} {es : List Ed} {y : Ed} (h : es[0]? = some y) : eP n es 0 = edB n y := by
  unfold eP; rw [h]; simp
theorem eP_s {n : Int} {es : List Ed} {x y : Ed} {j : Nat} (h : es[j + 1]? = some y) (h' : es[j]? = some x) : eP n es (j + 1) = (edB n y && lsB x y) := by
  unfold eP; rw [h]; simp only [h']
def eOk (n : Int) (es : List Ed) : Bool := if ∀ i, i < es.length → eP n es i = true then decide ((es.length : Int) ≤ 66) else false
theorem eOk_len {n : Int} {es : List Ed} (h : eOk n es = true) : es.length ≤ 66 := by
  unfold eOk at h
  split at h
  · rw [decide_eq_true_eq] at h; omega
  · cases h
theorem h_iedgesOk (n : Int) (es : List Ed) (hl : es.length ≤ 1048576) : g_iedgesOk (n, es) = some (eOk n es, ()) := by
  have hm : maxLen = 9223372036854775807 := by decide
  show f_iedgesOk BIG _ = _
  rw [e_iedgesOk, allLoop es (by omega) (eP n es) false]
  · unfold eOk
    split <;> rfl
  · intro self i y hy
    have hi := (List.getElem?_eq_some_iff.1 hy).1
    simp only [show ((i : Int) < (es.length : Int)) from by omega, decide_true, cond_true]
    rw [bnd_nat hi, hy, Option.bind_some, h_iEdgeOk, wr1 (by omega)]
    cases i with
    | zero =>
      rw [eP_0 hy]
      cases edB n y <;> simp
    | succ j =>
      have hj : es[j]? = some (es[j]'(by omega)) := List.getElem?_eq_getElem (by omega)
      rw [eP_s hy hj, show (((j + 1 : Nat) : Int) - 1) = (j : Int) from by omega, wr (n := (j : Int)) (by omega) (by omega)]
      cases hb : edB n y with
      | false => simp
      | true =>
        simp only [Option.bind_some, Bool.not_true, cond_false, show (0 : Int) < ((j + 1 : Nat) : Int) from by omega, decide_true, cond_true, Bool.true_and]
        rw [bnd_nat (by omega), hj]
        simp only [Option.bind_some]
        simp only [Option.bind_some, h_iahead]
        cases lsB _ y <;> rfl
  · intro self
    simp
theorem h_sl05Edges (n : Int) (es : List Ed) (hl : es.length ≤ 1048576) : g_sl05Edges (n, es) = some (eOk n es, ()) := by
  have hm : maxLen = 9223372036854775807 := by decide
  show f_sl05Edges BIG _ = _
  rw [e_sl05Edges, allLoop es (by omega) (eP n es) false]
  · unfold eOk
    split <;> rfl
  · intro self i y hy
    have hi := (List.getElem?_eq_some_iff.1 hy).1
    simp only [show ((i : Int) < (es.length : Int)) from by omega, decide_true, cond_true]
    rw [bnd_nat hi, hy, Option.bind_some, h_sEdgeOk, wr1 (by omega)]
    cases i with
    | zero =>
      rw [eP_0 hy]
      cases edB n y <;> simp
    | succ j =>
      have hj : es[j]? = some (es[j]'(by omega)) := List.getElem?_eq_getElem (by omega)
      rw [eP_s hy hj, show (((j + 1 : Nat) : Int) - 1) = (j : Int) from by omega, wr (n := (j : Int)) (by omega) (by omega)]
      cases hb : edB n y with
      | false => simp
      | true =>
        simp only [Option.bind_some, Bool.not_true, cond_false, show (0 : Int) < ((j + 1 : Nat) : Int) from by omega, decide_true, cond_true, Bool.true_and]
        rw [bnd_nat (by omega), hj]
        simp only [Option.bind_some]
        rw [bnd_nat hi, hy]
        simp only [Option.bind_some, h_sl05Less]
        cases lsB _ y <;> rfl
  · intro self
    simp
abbrev Or' := Int × Int × List (Int × Int) × Int
def ordB (n : Int) (o : Or') : Bool := inB n 1 12 && (inB o.1 1 100000 && (inB o.2.1 1 4 && (eOk n o.2.2.1 && (if o.2.1 = 3 then decide (o.2.2.1.length = 0) && inB o.2.2.2 0 (n - 1) else if o.2.1 = 4 then decide (0 < o.2.2.1.length) && decide (o.2.2.2 = 0) else decide (o.2.2.1.length = 1) && decide (o.2.2.2 = 0)))))
theorem h_sOrderOk (n : Int) (o : Or') (hl : o.2.2.1.length ≤ 1048576) : g_sOrderOk (n, o) = some (ordB n o, ()) := by
  show f_sOrderOk BIG _ = _
  rw [e_sOrderOk]
  simp only [h_sl01In', h_sl05Edges n _ hl, Option.bind_some]
  unfold ordB
  cases h : inB n 1 12 with
  | false => rfl
  | true =>
    have := inB_t.1 h
    rw [wr (by omega) (by omega)]
    cases h1 : inB o.1 1 100000 with
    | false => rfl
    | true =>
      cases h2 : inB o.2.1 1 4 with
      | false => rfl
      | true =>
        cases h3 : eOk n o.2.2.1 with
        | false => rfl
        | true =>
          simp only [Bool.not_true, cond_false, Option.bind_some, Bool.true_and]
          by_cases k3 : o.2.1 = 3
          · rw [if_pos k3, decide_eq_true k3, cond_true]
            by_cases hz : o.2.2.1.length = 0
            · rw [decide_eq_true hz, decide_eq_true (by omega)]; rfl
            · rw [decide_eq_false hz, decide_eq_false (by omega)]; rfl
          · rw [if_neg k3, decide_eq_false k3, cond_false]
            by_cases k4 : o.2.1 = 4
            · rw [if_pos k4, decide_eq_true k4, cond_true]
              by_cases hz : 0 < o.2.2.1.length
              · rw [decide_eq_true hz, decide_eq_true (by omega)]; rfl
              · rw [decide_eq_false hz, decide_eq_false (by omega)]; rfl
            · rw [if_neg k4, decide_eq_false k4, cond_false]
              by_cases hz : o.2.2.1.length = 1
              · rw [decide_eq_true hz, decide_eq_true (by omega)]; rfl
              · rw [decide_eq_false hz, decide_eq_false (by omega)]; rfl
theorem h_iOrderOk (n : Int) (o : Or') (hl : o.2.2.1.length ≤ 1048576) : g_iOrderOk (n, o) = some (ordB n o, ()) := by
  show f_iOrderOk BIG _ = _
  rw [e_iOrderOk]
  simp only [h_iin', h_iedgesOk n _ hl, Option.bind_some]
  unfold ordB
  cases h : inB n 1 12 with
  | false => rfl
  | true =>
    have := inB_t.1 h
    rw [wr (by omega) (by omega)]
    cases h1 : inB o.1 1 100000 with
    | false => rfl
    | true =>
      cases h3 : eOk n o.2.2.1 with
      | false => simp
      | true =>
        simp only [Bool.not_true, cond_false, Option.bind_some, Bool.true_and]
        by_cases k3 : o.2.1 = 3
        · have h2 : inB o.2.1 1 4 = true := inB_t.2 (by omega)
          rw [h2, if_pos k3, decide_eq_true k3]
          rw [decide_eq_false (by omega : ¬ o.2.1 = 1), decide_eq_false (by omega : ¬ o.2.1 = 2)]
          by_cases hz : o.2.2.1.length = 0
          · rw [decide_eq_true hz, decide_eq_true (show (o.2.2.1.length : Int) = 0 from by omega)]; by_cases hv : o.2.2.2 = 0 <;> simp [hv]
          · rw [decide_eq_false hz, decide_eq_false (show ¬ (o.2.2.1.length : Int) = 0 from by omega)]; by_cases hv : o.2.2.2 = 0 <;> simp [hv]
        · rw [if_neg k3, decide_eq_false k3]
          by_cases hv : o.2.2.2 = 0
          · simp only [hv, decide_true, Bool.not_true, cond_false, Option.bind_some, Bool.and_true]
            by_cases k4 : o.2.1 = 4
            · have h2 : inB o.2.1 1 4 = true := inB_t.2 (by omega)
              rw [h2, if_pos k4, decide_eq_true k4, decide_eq_false (by omega : ¬ o.2.1 = 1), decide_eq_false (by omega : ¬ o.2.1 = 2)]
              simp
            · rw [if_neg k4, decide_eq_false k4]
              by_cases k1 : o.2.1 = 1
              · have h2 : inB o.2.1 1 4 = true := inB_t.2 (by omega)
                rw [h2, decide_eq_true k1]
                simp
                omega
              · by_cases k2 : o.2.1 = 2
                · have h2 : inB o.2.1 1 4 = true := inB_t.2 (by omega)
                  rw [h2, decide_eq_false k1, decide_eq_true k2]
                  simp
                  omega
                · have h2 : inB o.2.1 1 4 = false := by
                    cases hh : inB o.2.1 1 4 with
                    | false => rfl
                    | true => have := inB_t.1 hh; omega
                  rw [h2, decide_eq_false k1, decide_eq_false k2]
                  rfl
          · simp [hv]
def lbP (l : List Int) (i : Nat) : Bool := match l[i]? with
  | some y => inB y 0 i && (match l[y.toNat]? with
    | some z => decide (z = y)
    | none => false)
  | none => false
theorem lbP_eq {l : List Int} {i : Nat} {y z : Int} (h : l[i]? = some y) (h' : l[y.toNat]? = some z) : lbP l i = (inB y 0 i && decide (z = y)) := by
  unfold lbP; rw [h]; simp only [h']
theorem lbP_f {l : List Int} {i : Nat} {y : Int} (h : l[i]? = some y) (h' : inB y 0 i = false) : lbP l i = false := by
  unfold lbP; rw [h]; simp only [h', Bool.false_and]
def lbOk (n : Int) (l : List Int) : Bool := if (l.length : Int) = n then (if ∀ i, i < l.length → lbP l i = true then true else false) else false
theorem h_ilabelsOk (n : Int) (l : List Int) (hl : l.length ≤ 1048576) : g_ilabelsOk (n, l) = some (lbOk n l, ()) := by
  have hm : maxLen = 9223372036854775807 := by decide
  show f_ilabelsOk BIG _ = _
  rw [e_ilabelsOk]
  unfold lbOk
  by_cases hn : (l.length : Int) = n
  · rw [if_pos hn, decide_eq_true hn, Bool.not_true, cond_false, allLoop l (by omega) (lbP l) false]
    · split <;> rfl
    · intro self i y hy
      have hi := (List.getElem?_eq_some_iff.1 hy).1
      simp only [show ((i : Int) < (l.length : Int)) from by omega, decide_true, cond_true]
      rw [bnd_nat hi, hy, Option.bind_some, h_iin', wr1 (by omega)]
      cases hb : inB y 0 (i : Int) with
      | false => rw [lbP_f hy hb]; simp
      | true =>
        have := inB_t.1 hb
        have hz : l[y.toNat]? = some (l[y.toNat]'(by omega)) := List.getElem?_eq_getElem (by omega)
        rw [lbP_eq hy hz, hb]
        simp only [Option.bind_some, Bool.not_true, cond_false, Bool.true_and]
        rw [bnd_ok (by omega) (by omega), hz]
        simp only [Option.bind_some]
        by_cases hd : l[y.toNat]'(by omega) = y <;> simp [hd]
    · intro self
      simp
  · rw [if_neg hn, decide_eq_false hn]; rfl
theorem h_sl09Labels (n : Int) (l : List Int) (hl : l.length ≤ 1048576) : g_sl09Labels (n, l) = some (lbOk n l, ()) := by
  have hm : maxLen = 9223372036854775807 := by decide
  show f_sl09Labels BIG _ = _
  rw [e_sl09Labels]
  unfold lbOk
  by_cases hn : (l.length : Int) = n
  · rw [if_pos hn, decide_eq_true hn, Bool.not_true, cond_false]
    subst hn
    rw [allLoop l (by omega) (lbP l) false]
    · split <;> rfl
    · intro self i y hy
      have hi := (List.getElem?_eq_some_iff.1 hy).1
      simp only [show ((i : Int) < (l.length : Int)) from by omega, decide_true, cond_true]
      simp only [bnd_nat hi, hy, Option.bind_some, h_sl01In', wr1 (show i < maxLen from by omega)]
      cases hb : inB y 0 (i : Int) with
      | false => rw [lbP_f hy hb]; simp
      | true =>
        have := inB_t.1 hb
        have hz : l[y.toNat]? = some (l[y.toNat]'(by omega)) := List.getElem?_eq_getElem (by omega)
        rw [lbP_eq hy hz, hb]
        simp only [Option.bind_some, Bool.not_true, cond_false, Bool.true_and]
        rw [bnd_ok (by omega) (by omega), hz]
        simp only [Option.bind_some]
        by_cases hd : l[y.toNat]'(by omega) = y <;> simp [hd]
    · intro self
      simp
  · rw [if_neg hn, decide_eq_false hn]; rfl
abbrev An := Int × Bool × List (Int × Int) × List Int
def ansB (n : Int) (o : An) : Bool := inB n 1 12 && (inB o.1 1 100000 && (eOk n o.2.2.1 && lbOk n o.2.2.2))
theorem h_iAnswerOk (n : Int) (o : An) (hl : o.2.2.1.length ≤ 1048576) (hl' : o.2.2.2.length ≤ 1048576) : g_iAnswerOk (n, o) = some (ansB n o, ()) := by
  show f_iAnswerOk BIG _ = _
  rw [e_iAnswerOk]
  simp only [h_iin', h_iedgesOk n _ hl, h_ilabelsOk n _ hl', Option.bind_some]
  unfold ansB
  cases inB n 1 12 <;> cases inB o.1 1 100000 <;> cases eOk n o.2.2.1 <;> rfl
theorem h_sAnswerOk (n : Int) (o : An) (hl : o.2.2.1.length ≤ 1048576) (hl' : o.2.2.2.length ≤ 1048576) : g_sAnswerOk (n, o) = some (ansB n o, ()) := by
  show f_sAnswerOk BIG _ = _
  rw [e_sAnswerOk]
  simp only [h_sl01In', h_sl05Edges n _ hl, h_sl09Labels n _ hl', Option.bind_some]
  unfold ansB
  cases inB n 1 12 <;> cases inB o.1 1 100000 <;> cases eOk n o.2.2.1 <;> rfl
/-- A walk that may fail. -/
def fM {S α : Type} (st : S → α → Option S) : S → List α → Option S
  | s, [] => some s
  | s, y :: l => (st s y).bind fun s' => fM st s' l
theorem to_Ask (x0 : Int) (x1 : Int) (x2 : Int) (x3 : Int) : g_ltoAsk (x0, x1, x2, x3) = some ((x0, x1, x2, x3), ()) := e_ltoAsk BIG _
theorem eq_Ask (x0 : Int) (x1 : Int) (x2 : Int) (x3 : Int) (y0 : Int) (y1 : Int) (y2 : Int) (y3 : Int) : g_leqAsk ((x0, x1, x2, x3), (y0, y1, y2, y3)) = some (decide ((x0, x1, x2, x3) = (y0, y1, y2, y3)), ()) := by
  show f_leqAsk BIG _ = _
  rw [e_leqAsk]
  dsimp only
  by_cases c0 : x0 = y0
  case neg =>
    simp [c0]
  rw [decide_eq_true c0, Bool.not_true, cond_false]
  by_cases c1 : x1 = y1
  case neg =>
    simp [c1]
  rw [decide_eq_true c1, Bool.not_true, cond_false]
  by_cases c2 : x2 = y2
  case neg =>
    simp [c2]
  rw [decide_eq_true c2, Bool.not_true, cond_false]
  by_cases c3 : x3 = y3
  case neg =>
    simp [c3]
  rw [decide_eq_true c3, Bool.not_true, cond_false]
  rw [decide_eq_true (by simp_all)]
theorem to_Edge (x0 : Int) (x1 : Int) : g_ltoEdge (x0, x1) = some ((x0, x1), ()) := e_ltoEdge BIG _
theorem eq_Edge (x0 : Int) (x1 : Int) (y0 : Int) (y1 : Int) : g_leqEdge ((x0, x1), (y0, y1)) = some (decide ((x0, x1) = (y0, y1)), ()) := by
  show f_leqEdge BIG _ = _
  rw [e_leqEdge]
  dsimp only
  by_cases c0 : x0 = y0
  case neg =>
    simp [c0]
  rw [decide_eq_true c0, Bool.not_true, cond_false]
  by_cases c1 : x1 = y1
  case neg =>
    simp [c1]
  rw [decide_eq_true c1, Bool.not_true, cond_false]
  rw [decide_eq_true (by simp_all)]
theorem sz_IntS (a : List (Int)) (l : Int) (h0 : 0 ≤ l) (h1 : l ≤ 1048576) (ha : a.length ≤ maxLen) : g_lszIntS (a, l) = some (if ((a.length : Nat) : Int) ≤ l then l - (a.length : Nat) else -1, ()) := by
  have hm : maxLen = 9223372036854775807 := by decide
  show f_lszIntS BIG _ = _
  rw [e_lszIntS, wr (by omega) (by omega)]
  by_cases h : ((a.length : Nat) : Int) ≤ l
  · rw [if_pos h, decide_eq_false (by omega), cond_false]
  · rw [if_neg h, decide_eq_true (by omega), cond_true]
theorem to_IntS (a : List (Int)) (h : a.length ≤ 1048576) : g_ltoIntS a = some (a, ()) := by
  have hm : maxLen = 9223372036854775807 := by decide
  show f_ltoIntS BIG _ = _
  rw [e_ltoIntS, decide_eq_true (by omega), cond_true, decide_eq_true (by simp; omega), cond_true]
  simp only [Int.toNat_natCast]
  rw [cpLoop a (by omega)]
  · rfl
  · intro self out i y hl hy
    have hi := (List.getElem?_eq_some_iff.1 hy).1
    simp only [show ((i : Int) < (a.length : Int)) from by omega, decide_true, cond_true]
    rw [bnd_nat hi, hy, Option.bind_some]
    rw [bnd_nat (by omega), List.getElem?_eq_getElem (by omega), Option.bind_some, wr1 (by omega)]
  · intro self out hl
    simp
theorem eq_IntS (a b : List (Int)) (h : a.length ≤ 4294967296) : g_leqIntS (a, b) = some (decide (a = b), ()) := by
  have hm : maxLen = 9223372036854775807 := by decide
  show f_leqIntS BIG _ = _
  rw [e_leqIntS]
  by_cases hl : a.length = b.length
  · rw [decide_eq_true (by omega), Bool.not_true, cond_false, eqLoop a b (by omega) hl false]
    · by_cases h : a = b <;> simp [h]
    · intro self i x y hx hy
      have hi := (List.getElem?_eq_some_iff.1 hx).1
      simp only [show ((i : Int) < (a.length : Int)) from by omega, decide_true, cond_true]
      rw [bnd_nat hi, hx, Option.bind_some, bnd_nat (by omega), hy, Option.bind_some]
      rw [wr1 (by omega)]
      by_cases h : x = y <;> simp [h]
    · intro self
      simp
  · rw [decide_eq_false (by omega), Bool.not_false, cond_true, decide_eq_false (fun h => hl (by rw [h]))]
def hd_IntS (k : Int) (z : Int) (k' : Int) : Prop := z = k ∧ k' = k + 1 ∧ 0 ≤ k ∧ k ≤ 4611686018427387904
theorem mh_IntS (a : List (Int)) (k : Int) (h0 : 0 ≤ k) (hk : k + 16777216 ≤ 4611686018427387904) (hz : a.length ≤ 16777216) : ∃ t c, g_lmarkIntS (a, k) = some (c, t) ∧ g_lheldIntS (t, k) = some (c, ()) ∧ k ≤ c ∧ c ≤ k + 16777216 := by
  have hm : maxLen = 9223372036854775807 := by decide
  have L := mkLoop hd_IntS 1 (by omega) a k (by omega) (F := fun self1 x0 =>
    bif decide (x0.2.2 < (x0.1.length : Int)) then
     bnd x0.1.length x0.2.2 fun n2 =>
     Option.bind x0.1[n2]? fun y3 =>
     self1 (x0.1.set n2 x0.2.1, IntKind.wrap .i64 (x0.2.1 + (1 : Int)), IntKind.wrap .i64 (x0.2.2 + (1 : Int)))
    else some (x0.1, x0.2.1)) (by
    intro self out i k y hi hl hy _ hk0 hk1
    have hi' : i < out.length := by omega
    have w1 : IntKind.wrap .i64 (k + 1) = k + 1 := wr (by omega) (by omega)
    refine ⟨k, k + 1, ⟨rfl, rfl, by omega, by omega⟩, by omega, by omega, ?_⟩
    simp only [hl, show ((i : Int) < (a.length : Int)) from by omega, decide_true, cond_true, List.length_set, bnd_nat hi, hy, List.getElem?_set_self hi', Option.bind_some, List.set_set, w1, and_true]
    rw [wr1 (by omega)]) (by
    intro self out k hl
    simp [hl])
  obtain ⟨t, c, e1, e2, e3, e4, e5⟩ := L
  refine ⟨t, c, ?_, ?_, e4, by omega⟩
  · show f_lmarkIntS BIG _ = _
    rw [e_lmarkIntS, e1]
    rfl
  · show f_lheldIntS BIG _ = _
    rw [e_lheldIntS, hdLoop hd_IntS t k c (by omega) e2]
    · rfl
    · intro self i kk kk' z hz ⟨g1, g2, g3, g4⟩
      subst g2
      rw [g1] at hz
      have hi := (List.getElem?_eq_some_iff.1 hz).1
      have w1 : IntKind.wrap .i64 (kk + 1) = kk + 1 := wr (by omega) (by omega)
      simp only [show ((i : Int) < (t.length : Int)) from by omega, decide_true, cond_true, bnd_nat hi, hz, Option.bind_some, w1, Bool.not_true, cond_false, beq_self_eq_true]
      rw [wr1 (by omega)]
    · intro self k
      simp
theorem sz_EdgeS (a : List (Int × Int)) (l : Int) (h0 : 0 ≤ l) (h1 : l ≤ 1048576) (ha : a.length ≤ maxLen) : g_lszEdgeS (a, l) = some (if ((a.length : Nat) : Int) ≤ l then l - (a.length : Nat) else -1, ()) := by
  have hm : maxLen = 9223372036854775807 := by decide
  show f_lszEdgeS BIG _ = _
  rw [e_lszEdgeS, wr (by omega) (by omega)]
  by_cases h : ((a.length : Nat) : Int) ≤ l
  · rw [if_pos h, decide_eq_false (by omega), cond_false]
  · rw [if_neg h, decide_eq_true (by omega), cond_true]
theorem to_EdgeS (a : List (Int × Int)) (h : a.length ≤ 1048576) : g_ltoEdgeS a = some (a, ()) := by
  have hm : maxLen = 9223372036854775807 := by decide
  show f_ltoEdgeS BIG _ = _
  rw [e_ltoEdgeS, decide_eq_true (by omega), cond_true, decide_eq_true (by simp; omega), cond_true]
  simp only [Int.toNat_natCast]
  rw [cpLoop a (by omega)]
  · rfl
  · intro self out i y hl hy
    have hi := (List.getElem?_eq_some_iff.1 hy).1
    simp only [show ((i : Int) < (a.length : Int)) from by omega, decide_true, cond_true]
    rw [bnd_nat hi, hy, Option.bind_some]
    rw [to_Edge _ _, Option.bind_some]
    rw [bnd_nat (by omega), List.getElem?_eq_getElem (by omega), Option.bind_some, wr1 (by omega)]
  · intro self out hl
    simp
theorem eq_EdgeS (a b : List (Int × Int)) (h : a.length ≤ 4294967296) : g_leqEdgeS (a, b) = some (decide (a = b), ()) := by
  have hm : maxLen = 9223372036854775807 := by decide
  show f_leqEdgeS BIG _ = _
  rw [e_leqEdgeS]
  by_cases hl : a.length = b.length
  · rw [decide_eq_true (by omega), Bool.not_true, cond_false, eqLoop a b (by omega) hl false]
    · by_cases h : a = b <;> simp [h]
    · intro self i x y hx hy
      have hi := (List.getElem?_eq_some_iff.1 hx).1
      simp only [show ((i : Int) < (a.length : Int)) from by omega, decide_true, cond_true]
      rw [bnd_nat hi, hx, Option.bind_some, bnd_nat (by omega), hy, Option.bind_some]
      rw [wr1 (by omega)]
      rw [eq_Edge _ _ _ _, Option.bind_some]
      by_cases h : x = y <;> simp [h]
    · intro self
      simp
  · rw [decide_eq_false (by omega), Bool.not_false, cond_true, decide_eq_false (fun h => hl (by rw [h]))]
def hd_EdgeS (k : Int) (z : Int × Int) (k' : Int) : Prop := z = (k, k + 1) ∧ k' = k + 1 + 1 ∧ 0 ≤ k ∧ k ≤ 4611686018427387904
theorem mh_EdgeS (a : List (Int × Int)) (k : Int) (h0 : 0 ≤ k) (hk : k + 33554432 ≤ 4611686018427387904) (hz : a.length ≤ 16777216) : ∃ t c, g_lmarkEdgeS (a, k) = some (c, t) ∧ g_lheldEdgeS (t, k) = some (c, ()) ∧ k ≤ c ∧ c ≤ k + 33554432 := by
  have hm : maxLen = 9223372036854775807 := by decide
  have L := mkLoop hd_EdgeS 2 (by omega) a k (by omega) (F := fun self1 x0 =>
    bif decide (x0.2.2 < (x0.1.length : Int)) then
     bnd x0.1.length x0.2.2 fun n2 =>
     Option.bind x0.1[n2]? fun y3 =>
     bnd (x0.1.set n2 (x0.2.1, y3.2)).length x0.2.2 fun n4 =>
     Option.bind (x0.1.set n2 (x0.2.1, y3.2))[n4]? fun y5 =>
     self1 ((x0.1.set n2 (x0.2.1, y3.2)).set n4 (y5.1, IntKind.wrap .i64 (x0.2.1 + (1 : Int))), IntKind.wrap .i64 ((IntKind.wrap .i64 (x0.2.1 + (1 : Int))) + (1 : Int)), IntKind.wrap .i64 (x0.2.2 + (1 : Int)))
    else some (x0.1, x0.2.1)) (by
    intro self out i k y hi hl hy _ hk0 hk1
    have hi' : i < out.length := by omega
    have w1 : IntKind.wrap .i64 (k + 1) = k + 1 := wr (by omega) (by omega)
    have w2 : IntKind.wrap .i64 (k + 1 + 1) = k + 1 + 1 := wr (by omega) (by omega)
    refine ⟨(k, k + 1), k + 1 + 1, ⟨rfl, rfl, by omega, by omega⟩, by omega, by omega, ?_⟩
    simp only [hl, show ((i : Int) < (a.length : Int)) from by omega, decide_true, cond_true, List.length_set, bnd_nat hi, hy, List.getElem?_set_self hi', Option.bind_some, List.set_set, w1, w2, and_true]
    rw [wr1 (by omega)]) (by
    intro self out k hl
    simp [hl])
  obtain ⟨t, c, e1, e2, e3, e4, e5⟩ := L
  refine ⟨t, c, ?_, ?_, e4, by omega⟩
  · show f_lmarkEdgeS BIG _ = _
    rw [e_lmarkEdgeS, e1]
    rfl
  · show f_lheldEdgeS BIG _ = _
    rw [e_lheldEdgeS, hdLoop hd_EdgeS t k c (by omega) e2]
    · rfl
    · intro self i kk kk' z hz ⟨g1, g2, g3, g4⟩
      subst g2
      rw [g1] at hz
      have hi := (List.getElem?_eq_some_iff.1 hz).1
      have w1 : IntKind.wrap .i64 (kk + 1) = kk + 1 := wr (by omega) (by omega)
      have w2 : IntKind.wrap .i64 (kk + 1 + 1) = kk + 1 + 1 := wr (by omega) (by omega)
      simp only [show ((i : Int) < (t.length : Int)) from by omega, decide_true, cond_true, bnd_nat hi, hz, Option.bind_some, w1, w2, Bool.not_true, cond_false, beq_self_eq_true]
      rw [wr1 (by omega)]
    · intro self k
      simp
theorem sz_Answer (x0 : Int) (x1 : Bool) (x2 : List (Int × Int)) (x3 : List (Int)) (l : Int) (h0 : 0 ≤ l) (h1 : l ≤ 1048576) (q2 : x2.length ≤ maxLen) (q3 : x3.length ≤ maxLen) : g_lszAnswer ((x0, x1, x2, x3), l) = some (if (((x2.length + x3.length) : Nat) : Int) ≤ l then l - ((x2.length + x3.length) : Nat) else -1, ()) := by
  show f_lszAnswer BIG _ = _
  rw [e_lszAnswer]
  dsimp only
  have s0 := sz_EdgeS x2 (l) (by omega) (by omega) q2
  by_cases c0 : (((x2.length) : Nat) : Int) ≤ l
  case neg =>
    rw [if_neg c0] at s0
    rw [s0, Option.bind_some, if_neg (by omega)]
    all_goals rfl
  rw [if_pos c0] at s0
  rw [s0, Option.bind_some]
  dsimp only
  rw [decide_eq_false (by omega), cond_false]
  have s1 := sz_IntS x3 (l - ((x2.length) : Nat)) (by omega) (by omega) q3
  by_cases c1 : (((x3.length) : Nat) : Int) ≤ l - ((x2.length) : Nat)
  case neg =>
    rw [if_neg c1] at s1
    rw [s1, Option.bind_some, if_neg (by omega)]
    all_goals rfl
  rw [if_pos c1] at s1
  rw [s1, Option.bind_some]
  dsimp only
  rw [decide_eq_false (by omega), cond_false]
  rw [if_pos (by omega)]
  all_goals first | rfl | (congr 2; done) | (congr 2; omega)
theorem to_Answer (x0 : Int) (x1 : Bool) (x2 : List (Int × Int)) (x3 : List (Int)) (h : (x2.length + x3.length) ≤ 1048576) : g_ltoAnswer (x0, x1, x2, x3) = some ((x0, x1, x2, x3), ()) := by
  show f_ltoAnswer BIG _ = _
  rw [e_ltoAnswer]
  dsimp only
  rw [to_EdgeS x2 (by omega), Option.bind_some]
  rw [to_IntS x3 (by omega), Option.bind_some]
theorem eq_Answer (x0 : Int) (x1 : Bool) (x2 : List (Int × Int)) (x3 : List (Int)) (h : (x2.length + x3.length) ≤ 4294967296) : g_leqAnswer ((x0, x1, x2, x3), (x0, x1, x2, x3)) = some (true, ()) := by
  show f_leqAnswer BIG _ = _
  rw [e_leqAnswer]
  dsimp only
  rw [decide_eq_true rfl, Bool.not_true, cond_false]
  rw [beq_self_eq_true, Bool.not_true, cond_false]
  rw [eq_EdgeS x2 x2 (by omega), Option.bind_some]
  rw [decide_eq_true rfl, Bool.not_true, cond_false]
  rw [eq_IntS x3 x3 (by omega), Option.bind_some]
  rw [decide_eq_true rfl, Bool.not_true, cond_false]
theorem mh_Answer (x0 : Int) (x1 : Bool) (x2 : List (Int × Int)) (x3 : List (Int)) (k : Int) (h0 : 0 ≤ k) (hk : k + 50331648 ≤ 4611686018427387904) (hz : (x2.length + x3.length) ≤ 16777216) : ∃ t2 t3 c, g_lmarkAnswer ((x0, x1, x2, x3), k) = some (c, (x0, x1, t2, t3)) ∧ g_lheldAnswer ((x0, x1, t2, t3), k) = some (c, ()) ∧ k ≤ c ∧ c ≤ k + 50331648 := by
  obtain ⟨t2, c0, m0, d0, l0, u0⟩ := mh_EdgeS x2 k (by omega) (by omega) (by omega)
  obtain ⟨t3, c1, m1, d1, l1, u1⟩ := mh_IntS x3 c0 (by omega) (by omega) (by omega)
  refine ⟨t2, t3, c1, ?_, ?_, by omega, by omega⟩
  · show f_lmarkAnswer BIG _ = _
    rw [e_lmarkAnswer]
    dsimp only
    rw [m0, Option.bind_some, m1, Option.bind_some]
  · show f_lheldAnswer BIG _ = _
    rw [e_lheldAnswer]
    dsimp only
    rw [d0, Option.bind_some]
    dsimp only
    rw [decide_eq_false (by omega), cond_false]
    rw [d1, Option.bind_some]
    dsimp only
    rw [decide_eq_false (by omega), cond_false]
theorem sz_Order (x0 : Int) (x1 : Int) (x2 : List (Int × Int)) (x3 : Int) (l : Int) (h0 : 0 ≤ l) (h1 : l ≤ 1048576) (q2 : x2.length ≤ maxLen) : g_lszOrder ((x0, x1, x2, x3), l) = some (if (((x2.length) : Nat) : Int) ≤ l then l - ((x2.length) : Nat) else -1, ()) := by
  show f_lszOrder BIG _ = _
  rw [e_lszOrder]
  dsimp only
  have s0 := sz_EdgeS x2 (l) (by omega) (by omega) q2
  by_cases c0 : (((x2.length) : Nat) : Int) ≤ l
  case neg =>
    rw [if_neg c0] at s0
    rw [s0, Option.bind_some, if_neg (by omega)]
    all_goals rfl
  rw [if_pos c0] at s0
  rw [s0, Option.bind_some]
  dsimp only
  rw [decide_eq_false (by omega), cond_false]
  rw [if_pos (by omega)]
  all_goals first | rfl | (congr 2; done) | (congr 2; omega)
theorem to_Order (x0 : Int) (x1 : Int) (x2 : List (Int × Int)) (x3 : Int) (h : (x2.length) ≤ 1048576) : g_ltoOrder (x0, x1, x2, x3) = some ((x0, x1, x2, x3), ()) := by
  show f_ltoOrder BIG _ = _
  rw [e_ltoOrder]
  dsimp only
  rw [to_EdgeS x2 (by omega), Option.bind_some]
theorem eq_Order (x0 : Int) (x1 : Int) (x2 : List (Int × Int)) (x3 : Int) (h : (x2.length) ≤ 4294967296) : g_leqOrder ((x0, x1, x2, x3), (x0, x1, x2, x3)) = some (true, ()) := by
  show f_leqOrder BIG _ = _
  rw [e_leqOrder]
  dsimp only
  rw [decide_eq_true rfl, Bool.not_true, cond_false]
  rw [decide_eq_true rfl, Bool.not_true, cond_false]
  rw [eq_EdgeS x2 x2 (by omega), Option.bind_some]
  rw [decide_eq_true rfl, Bool.not_true, cond_false]
  rw [decide_eq_true rfl, Bool.not_true, cond_false]
theorem mh_Order (x0 : Int) (x1 : Int) (x2 : List (Int × Int)) (x3 : Int) (k : Int) (h0 : 0 ≤ k) (hk : k + 33554432 ≤ 4611686018427387904) (hz : (x2.length) ≤ 16777216) : ∃ t2 c, g_lmarkOrder ((x0, x1, x2, x3), k) = some (c, (x0, x1, t2, x3)) ∧ g_lheldOrder ((x0, x1, t2, x3), k) = some (c, ()) ∧ k ≤ c ∧ c ≤ k + 33554432 := by
  obtain ⟨t2, c0, m0, d0, l0, u0⟩ := mh_EdgeS x2 k (by omega) (by omega) (by omega)
  refine ⟨t2, c0, ?_, ?_, by omega, by omega⟩
  · show f_lmarkOrder BIG _ = _
    rw [e_lmarkOrder]
    dsimp only
    rw [m0, Option.bind_some]
  · show f_lheldOrder BIG _ = _
    rw [e_lheldOrder]
    dsimp only
    rw [d0, Option.bind_some]
    dsimp only
    rw [decide_eq_false (by omega), cond_false]
theorem sz_Rec (x0 : Int) (x1 : Int) (x2 : Int) (x3 : Int) (x4 : Int) (x5 : Int) (x6 : Int) (x7 : Bool) (x8 : List (Int × Int)) (x9 : List (Int)) (x10 : Int) (x11 : Int) (x12 : List (Int × Int)) (x13 : Int) (l : Int) (h0 : 0 ≤ l) (h1 : l ≤ 1048576) (q8 : x8.length ≤ maxLen) (q9 : x9.length ≤ maxLen) (q12 : x12.length ≤ maxLen) : g_lszRec ((x0, x1, x2, x3, x4, x5, x6, x7, x8, x9, x10, x11, x12, x13), l) = some (if (((x8.length + x9.length + x12.length) : Nat) : Int) ≤ l then l - ((x8.length + x9.length + x12.length) : Nat) else -1, ()) := by
  show f_lszRec BIG _ = _
  rw [e_lszRec]
  dsimp only
  have s0 := sz_Answer x6 x7 x8 x9 (l) (by omega) (by omega) q8 q9
  by_cases c0 : (((x8.length + x9.length) : Nat) : Int) ≤ l
  case neg =>
    rw [if_neg c0] at s0
    rw [s0, Option.bind_some, if_neg (by omega)]
    all_goals rfl
  rw [if_pos c0] at s0
  rw [s0, Option.bind_some]
  dsimp only
  rw [decide_eq_false (by omega), cond_false]
  have s1 := sz_Order x10 x11 x12 x13 (l - ((x8.length + x9.length) : Nat)) (by omega) (by omega) q12
  by_cases c1 : (((x12.length) : Nat) : Int) ≤ l - ((x8.length + x9.length) : Nat)
  case neg =>
    rw [if_neg c1] at s1
    rw [s1, Option.bind_some, if_neg (by omega)]
    all_goals rfl
  rw [if_pos c1] at s1
  rw [s1, Option.bind_some]
  dsimp only
  rw [decide_eq_false (by omega), cond_false]
  rw [if_pos (by omega)]
  all_goals first | rfl | (congr 2; done) | (congr 2; omega)
theorem to_Rec (x0 : Int) (x1 : Int) (x2 : Int) (x3 : Int) (x4 : Int) (x5 : Int) (x6 : Int) (x7 : Bool) (x8 : List (Int × Int)) (x9 : List (Int)) (x10 : Int) (x11 : Int) (x12 : List (Int × Int)) (x13 : Int) (h : (x8.length + x9.length + x12.length) ≤ 1048576) : g_ltoRec (x0, x1, x2, x3, x4, x5, x6, x7, x8, x9, x10, x11, x12, x13) = some ((x0, x1, x2, x3, x4, x5, x6, x7, x8, x9, x10, x11, x12, x13), ()) := by
  show f_ltoRec BIG _ = _
  rw [e_ltoRec]
  dsimp only
  rw [to_Ask x1 x2 x3 x4, Option.bind_some]
  rw [to_Answer x6 x7 x8 x9 (by omega), Option.bind_some]
  rw [to_Order x10 x11 x12 x13 (by omega), Option.bind_some]
theorem eq_Rec (x0 : Int) (x1 : Int) (x2 : Int) (x3 : Int) (x4 : Int) (x5 : Int) (x6 : Int) (x7 : Bool) (x8 : List (Int × Int)) (x9 : List (Int)) (x10 : Int) (x11 : Int) (x12 : List (Int × Int)) (x13 : Int) (h : (x8.length + x9.length + x12.length) ≤ 4294967296) : g_leqRec ((x0, x1, x2, x3, x4, x5, x6, x7, x8, x9, x10, x11, x12, x13), (x0, x1, x2, x3, x4, x5, x6, x7, x8, x9, x10, x11, x12, x13)) = some (true, ()) := by
  show f_leqRec BIG _ = _
  rw [e_leqRec]
  dsimp only
  rw [decide_eq_true rfl, Bool.not_true, cond_false]
  rw [eq_Ask, Option.bind_some]
  rw [decide_eq_true rfl, Bool.not_true, cond_false]
  rw [decide_eq_true rfl, Bool.not_true, cond_false]
  rw [eq_Answer x6 x7 x8 x9 (by omega), Option.bind_some]
  rw [Bool.not_true, cond_false]
  rw [eq_Order x10 x11 x12 x13 (by omega), Option.bind_some]
  rw [Bool.not_true, cond_false]
theorem mh_Rec (x0 : Int) (x1 : Int) (x2 : Int) (x3 : Int) (x4 : Int) (x5 : Int) (x6 : Int) (x7 : Bool) (x8 : List (Int × Int)) (x9 : List (Int)) (x10 : Int) (x11 : Int) (x12 : List (Int × Int)) (x13 : Int) (k : Int) (h0 : 0 ≤ k) (hk : k + 83886080 ≤ 4611686018427387904) (hz : (x8.length + x9.length + x12.length) ≤ 16777216) : ∃ t8 t9 t12 c, g_lmarkRec ((x0, x1, x2, x3, x4, x5, x6, x7, x8, x9, x10, x11, x12, x13), k) = some (c, (x0, x1, x2, x3, x4, x5, x6, x7, t8, t9, x10, x11, t12, x13)) ∧ g_lheldRec ((x0, x1, x2, x3, x4, x5, x6, x7, t8, t9, x10, x11, t12, x13), k) = some (c, ()) ∧ k ≤ c ∧ c ≤ k + 83886080 := by
  obtain ⟨t8, t9, c0, m0, d0, l0, u0⟩ := mh_Answer x6 x7 x8 x9 k (by omega) (by omega) (by omega)
  obtain ⟨t12, c1, m1, d1, l1, u1⟩ := mh_Order x10 x11 x12 x13 c0 (by omega) (by omega) (by omega)
  refine ⟨t8, t9, t12, c1, ?_, ?_, by omega, by omega⟩
  · show f_lmarkRec BIG _ = _
    rw [e_lmarkRec]
    dsimp only
    rw [m0, Option.bind_some, m1, Option.bind_some]
  · show f_lheldRec BIG _ = _
    rw [e_lheldRec]
    dsimp only
    rw [d0, Option.bind_some]
    dsimp only
    rw [decide_eq_false (by omega), cond_false]
    rw [d1, Option.bind_some]
    dsimp only
    rw [decide_eq_false (by omega), cond_false]
theorem neg_f {c : Int} (h : 1 ≤ c) : decide (c < 0) = false := decide_eq_false (by omega)
/-- A loop through a row that keeps an account, in whatever form. -/
theorem foldG {α S X B : Type} (a : List α) (hl : a.length < 18446744073709551616) {F : (X → Option B) → X → Option B} (mk : S → Int → X) (I : Nat → S → Prop) (st : S → α → S) (R : S → B) {s0 : S} (h0 : I 0 s0)
    (hI : ∀ i s y, a[i]? = some y → I i s → I (i + 1) (st s y)) (hF : ∀ self s (i : Nat) y, a[i]? = some y → I i s → F self (mk s (i : Int)) = self (mk (st s y) ((i + 1 : Nat) : Int)))
    (hE : ∀ self s, I a.length s → F self (mk s (a.length : Int)) = some (R s)) : loopT BIG F (mk s0 0) = some (R (a.foldl st s0)) := by
  have key : ∀ (k n i : Nat) (s : S), a.length - i ≤ k → k < n → i ≤ a.length → I i s → it F n (mk s (i : Int)) = some (R ((a.drop i).foldl st s)) := by
    intro k
    induction k with
    | zero =>
      intro n i s hk hn hi hs
      obtain ⟨m, rfl⟩ : ∃ m, n = m + 1 := ⟨n - 1, by omega⟩
      have : i = a.length := by omega
      subst this
      show F (it F m) _ = _
      rw [hE _ _ hs]; simp
    | succ k ih =>
      intro n i s hk hn hi hs
      obtain ⟨m, rfl⟩ : ∃ m, n = m + 1 := ⟨n - 1, by omega⟩
      show F (it F m) _ = _
      by_cases hi' : i < a.length
      · have hy := List.getElem?_eq_getElem hi'
        rw [hF _ _ _ _ hy hs, ih m (i + 1) _ (by omega) (by omega) hi' (hI _ _ _ hy hs), List.drop_eq_getElem_cons hi', List.foldl_cons]
      · have : i = a.length := by omega
        subst this
        rw [hE _ _ hs]; simp
  have := key a.length BIG 0 s0 (by omega) (by simpa [BIG] using hl) (by omega) h0
  show it F BIG (mk s0 0) = _
  simpa using this
theorem exitG {α S T X B : Type} (a : List α) (hl : a.length < 18446744073709551616) {F : (X → Option (T ⊕ B)) → X → Option (T ⊕ B)} (mk : S → Int → X) (I : Nat → S → Prop) (st : S → α → Option S) (R : S → T) (b : B) {s0 : S} (h0 : I 0 s0)
    (hI : ∀ i s s' y, a[i]? = some y → I i s → st s y = some s' → I (i + 1) s') (hF : ∀ self s (i : Nat) y, a[i]? = some y → I i s → F self (mk s (i : Int)) = match st s y with | some s' => self (mk s' ((i + 1 : Nat) : Int)) | none => some (.inr b))
    (hE : ∀ self s, I a.length s → F self (mk s (a.length : Int)) = some (.inl (R s))) : loopT BIG F (mk s0 0) = some (match fM st s0 a with | some s => .inl (R s) | none => .inr b) := by
  have key : ∀ (k n i : Nat) (s : S), a.length - i ≤ k → k < n → i ≤ a.length → I i s → it F n (mk s (i : Int)) = some (match fM st s (a.drop i) with | some s => .inl (R s) | none => .inr b) := by
    intro k
    induction k with
    | zero =>
      intro n i s hk hn hi hs
      obtain ⟨m, rfl⟩ : ∃ m, n = m + 1 := ⟨n - 1, by omega⟩
      have : i = a.length := by omega
      subst this
      show F (it F m) _ = _
      rw [hE _ _ hs, List.drop_length]; rfl
    | succ k ih =>
      intro n i s hk hn hi hs
      obtain ⟨m, rfl⟩ : ∃ m, n = m + 1 := ⟨n - 1, by omega⟩
      show F (it F m) _ = _
      by_cases hi' : i < a.length
      · have hy := List.getElem?_eq_getElem hi'
        rw [hF _ _ _ _ hy hs, List.drop_eq_getElem_cons hi']
        cases hst : st s a[i] with
        | none => simp only [fM, hst, Option.bind_none]
        | some s' =>
          simp only
          rw [ih m (i + 1) _ (by omega) (by omega) hi' (hI _ _ _ _ hy hs hst)]
          simp only [fM, hst, Option.bind_some]
      · have : i = a.length := by omega
        subst this
        rw [hE _ _ hs, List.drop_length]; rfl
  have := key a.length BIG 0 s0 (by omega) (by simpa [BIG] using hl) (by omega) h0
  show it F BIG (mk s0 0) = _
  simpa using this
def BA (l : List UInt8) : ByteArray := ⟨l.toArray⟩
theorem BA_data (b : ByteArray) : BA b.data.toList = b := by cases b; rfl
theorem BA_size (l : List UInt8) : (BA l).size = l.length := by
  have h : l.toArray.size = l.length := by simp
  exact h
theorem BA_app (a b : List UInt8) : BA a ++ BA b = BA (a ++ b) := by
  apply ByteArray.ext
  simp [BA, ByteArray.data_append]
theorem BA_get (l : List UInt8) (i : Nat) : (BA l)[i]? = l[i]? := by
  by_cases h : i < l.length
  · rw [getElem?_pos (BA l) i h, List.getElem?_eq_getElem h]
    rfl
  · rw [getElem?_neg (BA l) i h, List.getElem?_eq_none (by omega)]
theorem bytesStr_BA (ns : List Int) : bytesStr ns = BA (ns.map fun n => UInt8.ofNat n.toNat) := by
  have : ∀ (ns : List Int) (l : List UInt8), ns.foldl (fun r n => r.push (UInt8.ofNat n.toNat)) (BA l) = BA (l ++ ns.map fun n => UInt8.ofNat n.toNat) := by
    intro ns
    induction ns with
    | nil => intro l; simp
    | cons n ns ih =>
      intro l
      rw [List.foldl_cons]
      have : (BA l).push (UInt8.ofNat n.toNat) = BA (l ++ [UInt8.ofNat n.toNat]) := by
        apply ByteArray.ext
        simp [BA, ByteArray.push]
      rw [this, ih]; simp
  have := this ns []
  rw [List.nil_append] at this
  exact this
/-- A byte of a number. -/
def by8 (n : Int) : UInt8 := UInt8.ofNat (n % 256).toNat
theorem wrap_u8 (n : Int) : IntKind.wrap .u8 n = n % 256 := by
  simp [IntKind.wrap, IntKind.signed, IntKind.bits]
theorem bytes_by (ns : List Int) : bytesStr (ns.map (IntKind.wrap .u8)) = BA (ns.map by8) := by
  rw [bytesStr_BA, List.map_map]
  rfl
theorem bytes_nn {ns : List Int} (h : ∀ z, z ∈ ns → 0 ≤ z) : bytesStr ns = BA (ns.map by8) := by
  rw [bytesStr_BA]
  congr 1
  apply List.map_congr_left
  intro n hn
  have := h n hn
  unfold by8
  apply UInt8.toNat_inj.1
  simp only [UInt8.toNat_ofNat']
  omega
def vF : Nat → Nat → List UInt8
  | 0, v => [by8 (v : Int)]
  | k + 1, v => if v ≤ 127 then [by8 (v : Int)] else by8 ((v % 128 + 128 : Nat) : Int) :: vF k (v / 128)
def vB (v : Nat) : List UInt8 := vF 9 v
theorem vF_more : ∀ (k v : Nat), v < 128 ^ (k + 1) → vF (k + 1) v = vF k v
  | 0, v, h => by
    have : v ≤ 127 := by omega
    simp [vF, this]
  | k + 1, v, h => by
    unfold vF
    split
    · rfl
    · congr 1
      apply vF_more k
      rw [Nat.div_lt_iff_lt_mul (by omega)]
      rw [Nat.pow_succ] at h
      exact h
theorem vF_len : ∀ (k v : Nat), (vF k v).length ≤ k + 1
  | 0, v => by simp [vF]
  | k + 1, v => by
    unfold vF
    split
    · simp
    · have := vF_len k (v / 128)
      simp; omega
theorem vB_small {v : Nat} (h : v < 34359738368) : vB v = vF 4 v := by
  unfold vB
  rw [vF_more 8 v (by omega), vF_more 7 v (by omega), vF_more 6 v (by omega), vF_more 5 v (by omega), vF_more 4 v (by omega)]
theorem vB_len {v : Nat} (h : v < 34359738368) : (vB v).length ≤ 5 := by rw [vB_small h]; exact vF_len 4 v
theorem vB_lo {v : Nat} (h : v ≤ 127) : vB v = [by8 (v : Int)] := by simp [vB, vF, h]
theorem vB_hi {v : Nat} (h : 127 < v) (h' : v < 34359738368) : vB v = by8 ((v % 128 + 128 : Nat) : Int) :: vB (v / 128) := by
  rw [vB_small (v := v / 128) (by omega), vB_small h']
  show (if v ≤ 127 then _ else _ :: vF 3 (v / 128)) = _
  rw [if_neg (by omega), ← vF_more 3 (v / 128) (by omega)]
theorem vLoop (v : Nat) (hv : v < 34359738368) {F : (List Int × Int → Option (List Int × Int)) → List Int × Int → Option (List Int × Int)}
    (hF : ∀ self (out : List Int) (x : Nat), x < 34359738368 → out.length ≤ 100 → F self (out, (x : Int)) = if 127 < x then self (out ++ [((x % 128 + 128 : Nat) : Int)], ((x / 128 : Nat) : Int)) else some (out, (x : Int))) :
    ∃ (out : List Int) (x : Nat), loopT BIG F ([], (v : Int)) = some (out, (x : Int)) ∧ out.length ≤ 10 ∧ x ≤ 127 ∧ (out ++ [(x : Int)]).map by8 = vB v ∧ ∀ z, z ∈ out → 0 ≤ z := by
  have key : ∀ (k n : Nat) (out : List Int) (x : Nat), x < 128 ^ (k + 1) → k ≤ 4 → k < n → out.length ≤ 10 - k → (∀ z, z ∈ out → 0 ≤ z) → ∃ (out' : List Int) (x' : Nat), it F n (out, (x : Int)) = some (out', (x' : Int)) ∧ out'.length ≤ 10 ∧ x' ≤ 127 ∧ (out' ++ [(x' : Int)]).map by8 = out.map by8 ++ vB x ∧ ∀ z, z ∈ out' → 0 ≤ z := by
    intro k
    induction k with
    | zero =>
      intro n out x hx hk4 hk ho hz
      obtain ⟨m, rfl⟩ : ∃ m, n = m + 1 := ⟨n - 1, by omega⟩
      refine ⟨out, x, ?_, by omega, by omega, ?_, hz⟩
      · show F (it F m) _ = _
        rw [hF _ _ _ (by omega) (by omega), if_neg (by omega)]
      · rw [vB_lo (by omega)]; simp
    | succ k ih =>
      intro n out x hx hk4 hk ho hz
      obtain ⟨m, rfl⟩ : ∃ m, n = m + 1 := ⟨n - 1, by omega⟩
      have hx5 : x < 34359738368 := Nat.lt_of_lt_of_le hx (Nat.pow_le_pow_right (by omega) (show k + 1 + 1 ≤ 5 by omega))
      by_cases h : 127 < x
      · have hx' : x / 128 < 128 ^ (k + 1) := by
          rw [Nat.div_lt_iff_lt_mul (by omega)]
          rw [Nat.pow_succ] at hx; exact hx
        obtain ⟨out', x', g1, g2, g3, g4, g5⟩ := ih m (out ++ [((x % 128 + 128 : Nat) : Int)]) (x / 128) hx' (by omega) (by omega) (by simp; omega) (fun z hm => by
          rcases List.mem_append.1 hm with hm | hm
          · exact hz z hm
          · rw [List.mem_singleton.1 hm]; omega)
        refine ⟨out', x', ?_, g2, g3, ?_, g5⟩
        · show F (it F m) _ = _
          rw [hF _ _ _ hx5 (by omega), if_pos h]
          exact g1
        · rw [g4, vB_hi h hx5]; simp
      · refine ⟨out, x, ?_, by omega, by omega, ?_, hz⟩
        · show F (it F m) _ = _
          rw [hF _ _ _ hx5 (by omega), if_neg h]
        · rw [vB_lo (by omega)]; simp
  obtain ⟨out, x, h1, h2, h3, h4, h5⟩ := key 4 BIG [] v hv (by omega) (by decide) (by simp) (fun z hz => by cases hz)
  exact ⟨out, x, h1, h2, h3, by simpa using h4, h5⟩
theorem vStep (x : Nat) (hx : x < 34359738368) : IntKind.wrap .u8 (IntKind.wrap .i64 (Int.tmod (x : Int) 128 + 128)) = ((x % 128 + 128 : Nat) : Int) ∧ IntKind.wrap .i64 (Int.tdiv (x : Int) 128) = ((x / 128 : Nat) : Int) := by
  rw [Int.tmod_eq_emod_of_nonneg (by omega), Int.tdiv_eq_ediv_of_nonneg (by omega)]
  constructor
  · rw [wr (by omega) (by omega), wrap_u8]; omega
  · rw [wr (by omega) (by omega)]; omega
theorem vStepF (self1 : List Int × Int → Option (List Int × Int)) (out : List Int) (x : Nat) (hx : x < 34359738368) (ho : out.length ≤ 100) :
    (bif decide ((127 : Int) < (x : Int)) then
     bif decide ((128 : Int) = 0) then
      none
     else bif decide (out.length + ([IntKind.wrap .u8 (IntKind.wrap .i64 ((Int.tmod (x : Int) (128 : Int)) + (128 : Int)))]).length ≤ 4294967296) then
      bif decide ((128 : Int) = 0) then
       none
      else self1 (out ++ ([IntKind.wrap .u8 (IntKind.wrap .i64 ((Int.tmod (x : Int) (128 : Int)) + (128 : Int)))]), IntKind.wrap .i64 (Int.tdiv (x : Int) (128 : Int)))
     else none
    else some (out, (x : Int))) = if 127 < x then self1 (out ++ [((x % 128 + 128 : Nat) : Int)], ((x / 128 : Nat) : Int)) else some (out, (x : Int)) := by
  obtain ⟨s1, s2⟩ := vStep x hx
  simp only [s1, s2]
  rw [decide_eq_true (show out.length + [((x % 128 + 128 : Nat) : Int)].length ≤ 4294967296 by simp; omega)]
  by_cases h : 127 < x
  · rw [decide_eq_true (by omega), if_pos h]; rfl
  · rw [decide_eq_false (by omega), if_neg h]; rfl
theorem vEnd {v x : Nat} {out : List Int} (h3 : x ≤ 127) (h4 : (out ++ [(x : Int)]).map by8 = vB v) (h5 : ∀ z, z ∈ out → 0 ≤ z) : bytesStr (out ++ [IntKind.wrap .u8 (x : Int)]) = BA (vB v) := by
  have : out ++ [IntKind.wrap .u8 (x : Int)] = out ++ [(x : Int)] := by rw [wrap_u8, Int.emod_eq_of_lt (by omega) (by omega)]
  rw [this, bytes_nn (fun z hm => by
    rcases List.mem_append.1 hm with hm | hm
    · exact h5 z hm
    · rw [List.mem_singleton.1 hm]; omega), h4]
theorem w_sl01Var (v : Nat) (hv : v < 34359738368) : g_sl01Var (v : Int) = some (BA (vB v), ()) := by
  show f_sl01Var BIG _ = _
  rw [e_sl01Var]
  obtain ⟨out, x, h1, h2, h3, h4, h5⟩ := vLoop v hv (F := fun self1 x0 =>
    bif decide ((127 : Int) < x0.2) then
     bif decide ((128 : Int) = 0) then
      none
     else bif decide (x0.1.length + ([IntKind.wrap .u8 (IntKind.wrap .i64 ((Int.tmod x0.2 (128 : Int)) + (128 : Int)))]).length ≤ 4294967296) then
      bif decide ((128 : Int) = 0) then
       none
      else self1 (x0.1 ++ ([IntKind.wrap .u8 (IntKind.wrap .i64 ((Int.tmod x0.2 (128 : Int)) + (128 : Int)))]), IntKind.wrap .i64 (Int.tdiv x0.2 (128 : Int)))
     else none
    else some (x0.1, x0.2)) (fun self out x hx ho => vStepF self out x hx ho)
  rw [h1]
  simp only [Option.bind_some]
  rw [decide_eq_true (by simp; omega), cond_true, vEnd h3 h4 h5]
theorem w_iVarText (v : Int) : g_iVarText v = some (if inB v 0 1000000000 then (BA (vB v.toNat), true) else (BA [], false), ()) := by
  show f_iVarText BIG _ = _
  rw [e_iVarText, h_iin', Option.bind_some]
  cases h : inB v 0 1000000000 with
  | false => rfl
  | true =>
    rw [inB_t] at h
    obtain ⟨v, rfl⟩ : ∃ w : Nat, v = w := ⟨v.toNat, by omega⟩
    obtain ⟨out, x, h1, h2, h3, h4, h5⟩ := vLoop v (by omega) (F := fun self1 x0 =>
      bif decide ((127 : Int) < x0.2) then
       bif decide ((128 : Int) = 0) then
        none
       else bif decide (x0.1.length + ([IntKind.wrap .u8 (IntKind.wrap .i64 ((Int.tmod x0.2 (128 : Int)) + (128 : Int)))]).length ≤ 4294967296) then
        bif decide ((128 : Int) = 0) then
         none
        else self1 (x0.1 ++ ([IntKind.wrap .u8 (IntKind.wrap .i64 ((Int.tmod x0.2 (128 : Int)) + (128 : Int)))]), IntKind.wrap .i64 (Int.tdiv x0.2 (128 : Int)))
       else none
      else some (x0.1, x0.2)) (fun self out x hx ho => vStepF self out x hx ho)
    simp only [Bool.not_true, cond_false, if_true, Int.toNat_natCast]
    rw [h1]
    simp only [Option.bind_some]
    rw [decide_eq_true (by simp; omega), cond_true, vEnd h3 h4 h5]
theorem by_1 (x : Int) : bytesStr [IntKind.wrap .u8 x] = BA [by8 x] := bytes_by [x]
theorem by_2 (x y : Int) : bytesStr [IntKind.wrap .u8 x, IntKind.wrap .u8 y] = BA [by8 x, by8 y] := bytes_by [x, y]
theorem w_sl09Byte (v : Int) : g_sl09Byte v = some (BA [by8 v], ()) := by
  show f_sl09Byte BIG _ = _
  rw [e_sl09Byte, by_1]
def flT (b : Bool) : List UInt8 := [if b then 1 else 0]
theorem w_sl09Flag (b : Bool) : g_sl09Flag b = some (BA (flT b), ()) := by
  show f_sl09Flag BIG _ = _
  rw [e_sl09Flag]; cases b <;> rfl
def e2 (e : Ed) : List UInt8 := [by8 e.1, by8 e.2]
def eT (es : List Ed) : List UInt8 := vB es.length ++ es.flatMap e2
theorem flat2_len : ∀ es : List Ed, (es.flatMap e2).length = 2 * es.length
  | [] => rfl
  | e :: es => by rw [List.flatMap_cons, List.length_append, flat2_len es]; simp [e2]; omega
theorem eT_len {es : List Ed} (h : es.length ≤ 66) : (eT es).length ≤ 200 := by
  have := vB_len (v := es.length) (by omega)
  rw [eT, List.length_append, flat2_len]; omega
theorem fold_flat {α : Type} (f : α → List UInt8) : ∀ (l : List α) (s : List UInt8), l.foldl (fun s e => s ++ f e) s = s ++ l.flatMap f
  | [], s => by simp
  | e :: l, s => by rw [List.foldl_cons, fold_flat f l, List.flatMap_cons, List.append_assoc]
theorem w_iedgesText (es : List Ed) (he : es.length ≤ 66) : g_iedgesText es = some (BA (eT es), ()) := by
  have hm : maxLen = 9223372036854775807 := by decide
  show f_iedgesText BIG _ = _
  have hv : inB (es.length : Int) 0 1000000000 = true := inB_t.2 (by omega)
  have h5 := vB_len (v := es.length) (by omega)
  rw [e_iedgesText, w_iVarText, hv, if_pos rfl, Option.bind_some, Int.toNat_natCast]
  simp only
  rw [foldG es (by omega) (fun (s : List UInt8) i => (BA s, i)) (fun i s => s.length ≤ 5 + 2 * i) (fun s e => s ++ e2 e) BA (s0 := vB es.length) (by simpa using h5) (fun i s y _ h => by simp [e2]; omega), fold_flat]
  · rfl
  · intro self s i y hy hs
    have hi := (List.getElem?_eq_some_iff.1 hy).1
    simp only [show ((i : Int) < (es.length : Int)) from by omega, decide_true, cond_true]
    rw [bnd_nat hi, hy, Option.bind_some, wr1 (by omega), by_2, BA_app, BA_size, BA_size, decide_eq_true (by simp; omega)]
    rfl
  · intro self s _
    simp
theorem w_sl09Edges (es : List Ed) (he : es.length ≤ 66) : g_sl09Edges es = some (BA (eT es), ()) := by
  have hm : maxLen = 9223372036854775807 := by decide
  show f_sl09Edges BIG _ = _
  have h5 := vB_len (v := es.length) (by omega)
  rw [e_sl09Edges, w_sl01Var _ (by omega), Option.bind_some]
  simp only
  rw [foldG es (by omega) (fun (s : List UInt8) i => (BA s, i)) (fun i s => s.length ≤ 5 + 2 * i) (fun s e => s ++ e2 e) BA (s0 := vB es.length) (by simpa using h5) (fun i s y _ h => by simp [e2]; omega), fold_flat]
  · rfl
  · intro self s i y hy hs
    have hi := (List.getElem?_eq_some_iff.1 hy).1
    simp only [show ((i : Int) < (es.length : Int)) from by omega, decide_true, cond_true]
    rw [bnd_nat hi, hy, Option.bind_some, wr1 (by omega), w_sl09Byte, Option.bind_some, BA_app, BA_size, BA_size, decide_eq_true (by simp; omega), cond_true, bnd_nat hi, hy, Option.bind_some, w_sl09Byte, Option.bind_some, BA_app, BA_size, BA_size, decide_eq_true (by simp; omega), cond_true, List.append_assoc]
    rfl
  · intro self s _
    simp
def oT (o : Or') : List UInt8 := ((vB o.1.toNat ++ [by8 o.2.1]) ++ vB o.2.2.2.toNat) ++ eT o.2.2.1
theorem ordB_in {n : Int} {o : Or'} (h : ordB n o = true) : 1 ≤ n ∧ n ≤ 12 ∧ 1 ≤ o.1 ∧ o.1 ≤ 100000 ∧ 1 ≤ o.2.1 ∧ o.2.1 ≤ 4 ∧ 0 ≤ o.2.2.2 ∧ o.2.2.2 ≤ 12 ∧ eOk n o.2.2.1 = true := by
  unfold ordB at h
  simp only [Bool.and_eq_true] at h
  obtain ⟨hn, h1, h2, h3, h4⟩ := h
  have hn := inB_t.1 hn
  have h1 := inB_t.1 h1
  have h2 := inB_t.1 h2
  have hv : 0 ≤ o.2.2.2 ∧ o.2.2.2 ≤ 12 := by
    split at h4
    · simp only [Bool.and_eq_true] at h4
      have := inB_t.1 h4.2; omega
    · split at h4 <;> simp only [Bool.and_eq_true, decide_eq_true_eq] at h4 <;> omega
  exact ⟨hn.1, hn.2, h1.1, h1.2, h2.1, h2.2, hv.1, hv.2, h3⟩
theorem oT_len {n : Int} {o : Or'} (h : ordB n o = true) : (oT o).length ≤ 300 := by
  obtain ⟨a1, a2, a3, a4, a5, a6, a7, a8, a9⟩ := ordB_in h
  have h1 := vB_len (v := o.1.toNat) (by omega)
  have h2 := vB_len (v := o.2.2.2.toNat) (by omega)
  have h3 := eT_len (eOk_len a9)
  simp only [oT, List.length_append, List.length_cons, List.length_nil]; omega
theorem w_iOrderText (n : Int) (o : Or') (hl : o.2.2.1.length ≤ 1048576) : g_iOrderText (n, o) = some (if ordB n o then (BA (oT o), true) else (BA [], false), ()) := by
  show f_iOrderText BIG _ = _
  rw [e_iOrderText, h_iOrderOk n o hl, Option.bind_some]
  cases h : ordB n o with
  | false => rfl
  | true =>
    obtain ⟨a1, a2, a3, a4, a5, a6, a7, a8, a9⟩ := ordB_in h
    have h1 := vB_len (v := o.1.toNat) (by omega)
    have h2 := vB_len (v := o.2.2.2.toNat) (by omega)
    have h3 := eT_len (eOk_len a9)
    simp only [Bool.not_true, cond_false, if_true, w_iVarText, Option.bind_some]
    rw [show inB o.1 0 1000000000 = true from inB_t.2 (by omega), show inB o.2.2.2 0 1000000000 = true from inB_t.2 (by omega), if_pos rfl, if_pos rfl, by_1, w_iedgesText _ (eOk_len a9)]
    simp only [BA_app, BA_size, Option.bind_some]
    rw [decide_eq_true (by simp; omega), cond_true, decide_eq_true (by simp; omega), cond_true, decide_eq_true (by simp; omega), cond_true]
    rfl
theorem w_sOrderText (n : Int) (o : Or') (hl : o.2.2.1.length ≤ 1048576) : g_sOrderText (n, o) = some (if ordB n o then (BA (oT o), true) else (BA [], false), ()) := by
  show f_sOrderText BIG _ = _
  rw [e_sOrderText, h_sOrderOk n o hl, Option.bind_some]
  cases h : ordB n o with
  | false => rfl
  | true =>
    obtain ⟨a1, a2, a3, a4, a5, a6, a7, a8, a9⟩ := ordB_in h
    have h1 := vB_len (v := o.1.toNat) (by omega)
    have h2 := vB_len (v := o.2.2.2.toNat) (by omega)
    have h3 := eT_len (eOk_len a9)
    have k1 := w_sl01Var o.1.toNat (by omega)
    have k2 := w_sl01Var o.2.2.2.toNat (by omega)
    rw [Int.toNat_of_nonneg (by omega)] at k1 k2
    simp only [Bool.not_true, cond_false, if_true, k1, k2, w_sl09Byte, w_sl09Edges _ (eOk_len a9), BA_app, BA_size, Option.bind_some]
    rw [decide_eq_true (by simp; omega), cond_true, decide_eq_true (by simp; omega), cond_true, decide_eq_true (by simp; omega), cond_true]
    rfl
def aT (a : An) : List UInt8 := ((vB a.1.toNat ++ flT a.2.1) ++ eT a.2.2.1) ++ a.2.2.2.map by8
theorem ansB_in {n : Int} {a : An} (h : ansB n a = true) : 1 ≤ n ∧ n ≤ 12 ∧ 1 ≤ a.1 ∧ a.1 ≤ 100000 ∧ eOk n a.2.2.1 = true ∧ (a.2.2.2.length : Int) = n ∧ lbOk n a.2.2.2 = true := by
  unfold ansB at h
  simp only [Bool.and_eq_true, inB_t] at h
  obtain ⟨hn, h1, h2, h3⟩ := h
  have h3' := h3
  unfold lbOk at h3
  split at h3
  · rename_i hl
    exact ⟨hn.1, hn.2, h1.1, h1.2, h2, hl, h3'⟩
  · cases h3
theorem aT_len {n : Int} {a : An} (h : ansB n a = true) : (aT a).length ≤ 300 := by
  obtain ⟨a1, a2, a3, a4, a5, a6, _⟩ := ansB_in h
  have h1 := vB_len (v := a.1.toNat) (by omega)
  have h3 := eT_len (eOk_len a5)
  simp only [aT, flT, List.length_append, List.length_cons, List.length_nil, List.length_map]; omega
theorem map_flat (l : List Int) : l.flatMap (fun y => [by8 y]) = l.map by8 := by
  induction l with
  | nil => rfl
  | cons y l ih => rw [List.flatMap_cons, ih]; rfl
theorem w_iAnswerText (n : Int) (a : An) (hl : a.2.2.1.length ≤ 1048576) (hl' : a.2.2.2.length ≤ 1048576) : g_iAnswerText (n, a) = some (if ansB n a then (BA (aT a), true) else (BA [], false), ()) := by
  have hm : maxLen = 9223372036854775807 := by decide
  show f_iAnswerText BIG _ = _
  rw [e_iAnswerText, h_iAnswerOk n a hl hl', Option.bind_some]
  cases h : ansB n a with
  | false => rfl
  | true =>
    obtain ⟨a1, a2, a3, a4, a5, a6, _⟩ := ansB_in h
    have h1 := vB_len (v := a.1.toNat) (by omega)
    have h3 := eT_len (eOk_len a5)
    have hf : (bif a.2.1 then some (ByteArray.mk #[1]) else some (ByteArray.mk #[0]) : Option ByteArray) = some (BA (flT a.2.1)) := by cases a.2.1 <;> rfl
    simp only [Bool.not_true, cond_false, if_true, w_iVarText, Option.bind_some]
    rw [show inB a.1 0 1000000000 = true from inB_t.2 (by omega), if_pos rfl, hf, Option.bind_some, w_iedgesText _ (eOk_len a5)]
    simp only [BA_app, BA_size, Option.bind_some]
    rw [decide_eq_true (by simp [flT]; omega), cond_true, decide_eq_true (by simp [flT]; omega), cond_true,
      foldG a.2.2.2 (by omega) (fun (s : List UInt8) i => (BA s, i)) (fun i s => s.length ≤ 300 + i) (fun s y => s ++ [by8 y]) BA (by simp [flT]; omega) (fun i s y _ h => by simp; omega), fold_flat (fun y => [by8 y]), map_flat]
    · rfl
    · intro self s i y hy hs
      have hi := (List.getElem?_eq_some_iff.1 hy).1
      simp only [show ((i : Int) < (a.2.2.2.length : Int)) from by omega, decide_true, cond_true]
      rw [bnd_nat hi, hy, Option.bind_some, wr1 (by omega), by_1, BA_app, BA_size, BA_size, decide_eq_true (by simp; omega)]
      rfl
    · intro self s _
      simp
theorem w_sAnswerText (n : Int) (a : An) (hl : a.2.2.1.length ≤ 1048576) (hl' : a.2.2.2.length ≤ 1048576) : g_sAnswerText (n, a) = some (if ansB n a then (BA (aT a), true) else (BA [], false), ()) := by
  have hm : maxLen = 9223372036854775807 := by decide
  show f_sAnswerText BIG _ = _
  rw [e_sAnswerText, h_sAnswerOk n a hl hl', Option.bind_some]
  cases h : ansB n a with
  | false => rfl
  | true =>
    obtain ⟨a1, a2, a3, a4, a5, a6, _⟩ := ansB_in h
    have h1 := vB_len (v := a.1.toNat) (by omega)
    have h3 := eT_len (eOk_len a5)
    have k1 := w_sl01Var a.1.toNat (by omega)
    rw [Int.toNat_of_nonneg (by omega)] at k1
    simp only [Bool.not_true, cond_false, if_true, k1, w_sl09Flag, w_sl09Edges _ (eOk_len a5), BA_app, BA_size, Option.bind_some]
    rw [decide_eq_true (by simp [flT]; omega), cond_true, decide_eq_true (by simp [flT]; omega), cond_true,
      foldG a.2.2.2 (by omega) (fun (s : List UInt8) i => (BA s, i)) (fun i s => s.length ≤ 300 + i) (fun s y => s ++ [by8 y]) BA (by simp [flT]; omega) (fun i s y _ h => by simp; omega), fold_flat (fun y => [by8 y]), map_flat]
    · rfl
    · intro self s i y hy hs
      have hi := (List.getElem?_eq_some_iff.1 hy).1
      simp only [show ((i : Int) < n) from by omega, decide_true, cond_true]
      rw [bnd_nat hi, hy, Option.bind_some, wr1 (by omega), w_sl09Byte, Option.bind_some, BA_app, BA_size, BA_size, decide_eq_true (by simp; omega)]
      rfl
    · intro self s _
      simp [a6]
/-- A number read off bytes, of which it takes so many at most; and how many it took. -/
def dec : Nat → List UInt8 → Option (Nat × Nat)
  | 0, _ => none
  | _ + 1, [] => none
  | k + 1, b :: l => if b.toNat < 128 then some (b.toNat, 1) else (dec k l).map fun r => (b.toNat - 128 + 128 * r.1, r.2 + 1)
/-- What is read there, when it is a number in its own bytes. -/
def rdV (l : List UInt8) : Option (Nat × Nat) := match dec 5 l with
  | some (v, m) => if v ≤ 1000000000 ∧ vB v = l.take m then some (v, m) else none
  | none => none
abbrev St := Nat × Bool
def nm (T : List UInt8) (s : St) : Int × St :=
  if s.2 then (0, (s.1, true)) else match rdV (T.drop s.1) with
  | some (v, m) => ((v : Int), (s.1 + m, false))
  | none => (0, (s.1, true))
def on (T : List UInt8) (s : St) : Int × St :=
  if s.2 then (0, (s.1, true)) else match T[s.1]? with
  | some b => ((b.toNat : Int), (s.1 + 1, false))
  | none => (0, (s.1, true))
def edF (T : List UInt8) : Nat → St → List Ed → St × List Ed
  | 0, s, out => (s, out)
  | k + 1, s, out => if s.2 then (s, out) else edF T k (on T (on T s).2).2 (out ++ [((on T s).1, (on T (on T s).2).1)])
def q0 (T : List UInt8) : Int × St := nm T (0, false)
def q1 (T : List UInt8) : Int × St := on T (q0 T).2
def q2 (T : List UInt8) : Int × St := nm T (q1 T).2
def q3 (T : List UInt8) (K : Nat) : St × List Ed := edF T K (nm T (q2 T).2).2 []
def lbF (T : List UInt8) : Nat → St → List Int → St × List Int
  | 0, s, out => (s, out)
  | k + 1, s, out => lbF T k (on T s).2 (out ++ [(on T s).1])
def q4 (T : List UInt8) (K : Nat) : St × List Ed := edF T K (nm T (q1 T).2).2 []
def q5 (T : List UInt8) (K N : Nat) : St × List Int := lbF T N (q4 T K).1 []
theorem h_sl05SameEdges (a b : List Ed) (ha : a.length ≤ maxLen) : g_sl05SameEdges (a, b) = some (decide (a = b), ()) := by
  show f_sl05SameEdges BIG _ = _
  rw [e_sl05SameEdges]
  by_cases hl : a.length = b.length
  · rw [decide_eq_true (by omega), Bool.not_true, cond_false, eqLoop a b ha hl false]
    · by_cases h : a = b <;> simp [h]
    · intro self i x y hx hy
      have hi := (List.getElem?_eq_some_iff.1 hx).1
      simp only [show ((i : Int) < (a.length : Int)) from by omega, decide_true, cond_true]
      rw [bnd_nat hi, hx, Option.bind_some, bnd_nat (by omega), hy, Option.bind_some, wr1 (by omega)]
      obtain ⟨x1, x2⟩ := x
      obtain ⟨y1, y2⟩ := y
      by_cases h1 : x1 = y1 <;> by_cases h2 : x2 = y2 <;> simp [h1, h2]
    · intro self
      simp
  · rw [decide_eq_false (by omega), Bool.not_false, cond_true, decide_eq_false (fun h => hl (by rw [h]))]
theorem h_sl05SameInts (a b : List Int) (ha : a.length ≤ maxLen) : g_sl05SameInts (a, b) = some (decide (a = b), ()) := by
  show f_sl05SameInts BIG _ = _
  rw [e_sl05SameInts]
  by_cases hl : a.length = b.length
  · rw [decide_eq_true (by omega), Bool.not_true, cond_false, eqLoop a b ha hl false]
    · by_cases h : a = b <;> simp [h]
    · intro self i x y hx hy
      have hi := (List.getElem?_eq_some_iff.1 hx).1
      simp only [show ((i : Int) < (a.length : Int)) from by omega, decide_true, cond_true]
      rw [bnd_nat hi, hx, Option.bind_some, bnd_nat (by omega), hy, Option.bind_some, wr1 (by omega)]
      by_cases h1 : x = y <;> simp [h1]
    · intro self
      simp
  · rw [decide_eq_false (by omega), Bool.not_false, cond_true, decide_eq_false (fun h => hl (by rw [h]))]
def blA (a : An) : Bool := decide (a.1 = 0) && (!a.2.1 && (decide (a.2.2.1.length = 0) && decide (a.2.2.2.length = 0)))
def blO (o : Or') : Bool := decide (o.1 = 0) && (decide (o.2.1 = 0) && (decide (o.2.2.1.length = 0) && decide (o.2.2.2 = 0)))
def blQ (a b c d : Int) : Bool := decide (a = 0) && (decide (b = 0) && (decide (c = 0) && decide (d = 0)))
theorem len0 {α : Type} (l : List α) : decide ((l.length : Int) = 0) = decide (l.length = 0) := decide_eq_decide.2 (by omega)
theorem h_inoAnswer (a : An) : g_inoAnswer a = some (blA a, ()) := by
  show f_inoAnswer BIG _ = _
  rw [e_inoAnswer, len0, len0]
  unfold blA
  cases decide (a.1 = 0) <;> cases a.2.1 <;> cases decide (a.2.2.1.length = 0) <;> rfl
theorem h_inoOrder (o : Or') : g_inoOrder o = some (blO o, ()) := by
  show f_inoOrder BIG _ = _
  rw [e_inoOrder, len0]
  unfold blO
  cases decide (o.1 = 0) <;> cases decide (o.2.1 = 0) <;> cases decide (o.2.2.1.length = 0) <;> rfl
theorem nil_dec {α : Type} [DecidableEq α] (l : List α) : decide (l = []) = decide (l.length = 0) := decide_eq_decide.2 List.length_eq_zero_iff.symm
theorem h_sl10Blank (a : An) (h1 : a.2.2.1.length ≤ maxLen) (h2 : a.2.2.2.length ≤ maxLen) : g_sl10Blank a = some (blA a, ()) := by
  show f_sl10Blank BIG _ = _
  rw [e_sl10Blank]
  have : g_sl09SameAnswer (a, ((0 : Int), false, [], [])) = f_sl09SameAnswer BIG (a, ((0 : Int), false, [], [])) := rfl
  rw [this, e_sl09SameAnswer]
  dsimp only
  rw [h_sl05SameEdges _ _ h1, h_sl05SameInts _ _ h2, nil_dec, nil_dec]
  unfold blA
  cases decide (a.1 = 0) <;> cases a.2.1 <;> cases decide (a.2.2.1.length = 0) <;> rfl
theorem h_sl13BlankOrder (o : Or') (h1 : o.2.2.1.length ≤ maxLen) : g_sl13BlankOrder o = some (blO o, ()) := by
  show f_sl13BlankOrder BIG _ = _
  rw [e_sl13BlankOrder]
  have : g_sl09SameOrder (o, ((0 : Int), (0 : Int), [], (0 : Int))) = f_sl09SameOrder BIG (o, ((0 : Int), (0 : Int), [], (0 : Int))) := rfl
  rw [this, e_sl09SameOrder]
  dsimp only
  rw [h_sl05SameEdges _ _ h1, nil_dec]
  unfold blO
  cases decide (o.1 = 0) <;> cases decide (o.2.1 = 0) <;> cases decide (o.2.2.1.length = 0) <;> cases decide (o.2.2.2 = 0) <;> rfl
theorem h_sl13BlankAsk (a b c d : Int) : g_sl13BlankAsk (a, b, c, d) = some (blQ a b c d, ()) := by
  show f_sl13BlankAsk BIG _ = _
  rw [e_sl13BlankAsk]
  unfold blQ
  simp only [Bool.and_true]
def stA (s : List UInt8) (y : Int) : Option (List UInt8) := if inB y 0 100000 then some (s ++ vB y.toNat) else none
theorem h_iaskText (a b c d : Int) : g_iaskText (a, b, c, d) = some (match fM stA [] [a, b, c, d] with | some s => (BA s, true) | none => (BA [], false), ()) := by
  have hm : maxLen = 9223372036854775807 := by decide
  show f_iaskText BIG _ = _
  rw [e_iaskText]
  dsimp only
  have h5 : ∀ y : Int, inB y 0 100000 = true → (vB y.toNat).length ≤ 5 := fun y hy => vB_len (by rw [inB_t] at hy; omega)
  have L := exitG [a, b, c, d] (by simp) (F := fun self1 x0 =>
    bif decide (x0.2 < (([a, b, c, d]).length : Int)) then
     bnd ([a, b, c, d]).length x0.2 fun n2 =>
     Option.bind ([a, b, c, d])[n2]? fun y3 =>
     Option.bind (g_iin (y3, (0 : Int), (100000 : Int))) fun r4 =>
     bif !r4.1 then
      some (Sum.inr ((ByteArray.mk #[]), false))
     else Option.bind (g_iVarText y3) fun r5 =>
     bif decide (x0.1.size + r5.1.1.size ≤ 4611686018427387904) then
      self1 (x0.1 ++ r5.1.1, IntKind.wrap .i64 (x0.2 + (1 : Int)))
     else none
    else some (Sum.inl x0.1)) (fun (s : List UInt8) i => (BA s, i)) (fun i s => s.length ≤ 5 * i) stA BA ((ByteArray.mk #[]), false) (s0 := []) (by simp) (fun i s s' y _ h hs => by
      unfold stA at hs
      split at hs
      · rename_i hy
        cases hs
        have := h5 y hy
        simp; omega
      · cases hs) (by
    intro self s i y hy hs
    have hi := (List.getElem?_eq_some_iff.1 hy).1
    have hi4 : i < 4 := hi
    simp only [show ((i : Int) < (([a, b, c, d]).length : Int)) from by omega, decide_true, cond_true]
    rw [bnd_nat hi, hy, Option.bind_some, h_iin', Option.bind_some, wr1 (by omega)]
    unfold stA
    cases hb : inB y 0 100000 with
    | false => rfl
    | true =>
      have := h5 y hb
      rw [inB_t] at hb
      simp only [Bool.not_true, cond_false, if_true, w_iVarText, Option.bind_some]
      rw [show inB y 0 1000000000 = true from inB_t.2 (by omega), if_pos rfl, BA_app, BA_size, BA_size, decide_eq_true (by omega)]
      rfl) (by
    intro self s _
    simp)
  have L' : loopT BIG _ ((ByteArray.mk #[]), (0 : Int)) = _ := L
  rw [L']
  cases fM stA [] [a, b, c, d] <;> rfl
theorem stA_all (a b c d : Int) : fM stA [] [a, b, c, d] = if inB a 0 100000 && (inB b 0 100000 && (inB c 0 100000 && inB d 0 100000)) then some (((vB a.toNat ++ vB b.toNat) ++ vB c.toNat) ++ vB d.toNat) else none := by
  simp only [fM, stA]
  cases inB a 0 100000 <;> cases inB b 0 100000 <;> cases inB c 0 100000 <;> cases inB d 0 100000 <;> simp
abbrev Rc := Int × Int × Int × Int × Int × Int × Int × Bool × List (Int × Int) × List Int × Int × Int × List (Int × Int) × Int
/-- A record's bytes. -/
def rcT (n : Int) (r : Rc) : Option (List UInt8) :=
  let an : An := (r.2.2.2.2.2.2.1, r.2.2.2.2.2.2.2.1, r.2.2.2.2.2.2.2.2.1, r.2.2.2.2.2.2.2.2.2.1)
  let o : Or' := r.2.2.2.2.2.2.2.2.2.2
  let sh := r.2.2.2.2.2.1
  if r.1 = 1 then
    if (decide (sh = 0) && (blA an && blO o)) && (inB r.2.1 0 100000 && (inB r.2.2.1 0 100000 && (inB r.2.2.2.1 0 100000 && inB r.2.2.2.2.1 0 100000))) then
      some ([1] ++ (((vB r.2.1.toNat ++ vB r.2.2.1.toNat) ++ vB r.2.2.2.1.toNat) ++ vB r.2.2.2.2.1.toNat)) else none
  else if r.1 = 2 then
    if (blQ r.2.1 r.2.2.1 r.2.2.2.1 r.2.2.2.2.1 && (blO o && inB sh 0 100000)) && ansB n an then some ([2] ++ (vB sh.toNat ++ (vB (aT an).length ++ aT an))) else none
  else if r.1 = 3 then
    if (blQ r.2.1 r.2.2.1 r.2.2.2.1 r.2.2.2.2.1 && (decide (sh = 0) && blA an)) && ordB n o then some ([3] ++ (vB (oT o).length ++ oT o)) else none
  else none
def rcR : Option (List UInt8) → ByteArray × Bool
  | some s => (BA s, true)
  | none => (BA [], false)
theorem h_iShortText (s : List UInt8) (h : s.length ≤ 300) : g_iShortText (BA s) = some ((BA (vB s.length ++ s), true), ()) := by
  show f_iShortText BIG _ = _
  have := vB_len (v := s.length) (by omega)
  rw [e_iShortText, BA_size, decide_eq_false (by omega), cond_false, w_iVarText, show inB (s.length : Int) 0 1000000000 = true from inB_t.2 (by omega), if_pos rfl, Option.bind_some, Int.toNat_natCast]
  simp only [BA_size, BA_app]
  rw [decide_eq_true (by omega)]; rfl
theorem askEq (a b c d : Int) : (decide (a = 0) && (decide (b = 0) && (decide (c = 0) && (decide (d = 0) && true)))) = blQ a b c d := by simp [blQ]
theorem rcT_len {n : Int} {r : Rc} {s : List UInt8} (h : rcT n r = some s) : 1 ≤ s.length ∧ s.length ≤ 400 := by
  unfold rcT at h
  simp only at h
  split at h
  · split at h
    · rename_i hc
      cases h
      simp only [Bool.and_eq_true, inB_t] at hc
      have h1 := vB_len (v := r.2.1.toNat) (by omega)
      have h2 := vB_len (v := r.2.2.1.toNat) (by omega)
      have h3 := vB_len (v := r.2.2.2.1.toNat) (by omega)
      have h4 := vB_len (v := r.2.2.2.2.1.toNat) (by omega)
      simp only [List.length_append, List.length_cons, List.length_nil]; omega
    · cases h
  · split at h
    · split at h
      · rename_i hc
        cases h
        simp only [Bool.and_eq_true, inB_t] at hc
        have h1 := aT_len hc.2
        have h2 := vB_len (v := r.2.2.2.2.2.1.toNat) (by omega)
        have h3 := vB_len (v := (aT (r.2.2.2.2.2.2.1, r.2.2.2.2.2.2.2.1, r.2.2.2.2.2.2.2.2.1, r.2.2.2.2.2.2.2.2.2.1)).length) (by omega)
        simp only [List.length_append, List.length_cons, List.length_nil]; omega
      · cases h
    · split at h
      · split at h
        · rename_i hc
          cases h
          simp only [Bool.and_eq_true, inB_t] at hc
          have h1 := oT_len hc.2
          have h3 := vB_len (v := (oT r.2.2.2.2.2.2.2.2.2.2).length) (by omega)
          simp only [List.length_append, List.length_cons, List.length_nil]; omega
        · cases h
      · cases h
theorem w_iRecText (n : Int) (r : Rc) (h1 : r.2.2.2.2.2.2.2.2.1.length ≤ 1048576) (h2 : r.2.2.2.2.2.2.2.2.2.1.length ≤ 1048576) (h3 : r.2.2.2.2.2.2.2.2.2.2.2.2.1.length ≤ 1048576) : g_iRecText (n, r) = some (rcR (rcT n r), ()) := by
  obtain ⟨k, a, b, c, d, sh, an0, an1, an2, an3, o⟩ := r
  simp only at h1 h2 h3
  show f_iRecText BIG _ = _
  rw [e_iRecText]
  dsimp only
  rw [h_inoAnswer (an0, an1, an2, an3), h_inoOrder o, h_iaskText, h_iin', askEq, stA_all]
  have w1 := w_iAnswerText n (an0, an1, an2, an3) h1 h2
  have w2 := w_iOrderText n o h3
  rw [w1, w2]
  have hl := @rcT_len n (k, a, b, c, d, sh, an0, an1, an2, an3, o)
  unfold rcT at hl ⊢
  simp only at hl ⊢
  simp only [Option.bind_some]
  by_cases k1 : k = 1
  · subst k1
    simp only [decide_true, cond_true, if_true] at hl ⊢
    rw [by_1]
    cases hs : decide (sh = 0) with
    | false => simp [rcR] <;> rfl
    | true =>
      cases hA : blA (an0, an1, an2, an3) with
      | false => simp [rcR] <;> rfl
      | true =>
        cases hO : blO o with
        | false => simp [rcR] <;> rfl
        | true =>
          cases hq : (inB a 0 100000 && (inB b 0 100000 && (inB c 0 100000 && inB d 0 100000))) with
          | false => simp [rcR] <;> rfl
          | true =>
            rw [hs, hA, hO, hq] at hl
            have := hl rfl
            simp only [cond_true, if_true, Option.bind_some, Bool.not_true, cond_false, Bool.and_self]
            rw [BA_app, BA_size, BA_size, decide_eq_true (by simp only [List.length_append, List.length_cons, List.length_nil] at this ⊢; omega)]
            rfl
  · simp only [k1, decide_false, cond_false, if_false, Option.bind_some] at hl ⊢
    by_cases k2 : k = 2
    · subst k2
      simp only [decide_true, cond_true, if_true] at hl ⊢
      rw [by_1]
      cases hQ : blQ a b c d with
      | false => simp [rcR] <;> rfl
      | true =>
        cases hO : blO o with
        | false => simp [rcR] <;> rfl
        | true =>
          cases hs : inB sh 0 100000 with
          | false => simp [rcR] <;> rfl
          | true =>
            cases hA : ansB n (an0, an1, an2, an3) with
            | false =>
              simp only [cond_true, Option.bind_some, if_false, Bool.false_eq_true, h_iShortText [] (by simp), w_iVarText, BA_size, Bool.and_false]
              rw [inB_t] at hs
              rw [show inB sh 0 1000000000 = true from inB_t.2 (by omega), if_pos rfl]
              have := vB_len (v := sh.toNat) (by omega)
              simp only [BA_app, BA_size]
              rw [decide_eq_true (by simp [vB_lo]; omega)]
              simp [rcR] <;> rfl
            | true =>
              rw [hQ, hO, hs, hA] at hl
              have := hl rfl
              have hal := aT_len hA
              rw [inB_t] at hs
              simp only [cond_true, Option.bind_some, if_true, h_iShortText _ hal, w_iVarText, Bool.and_self]
              rw [show inB sh 0 1000000000 = true from inB_t.2 (by omega), if_pos rfl]
              simp only [BA_app, BA_size, List.length_append, List.length_cons, List.length_nil] at this ⊢
              rw [decide_eq_true (by omega)]
              simp only [cond_true, Option.bind_some, Bool.not_true, cond_false, BA_size, BA_app, List.length_append, List.length_cons, List.length_nil]
              rw [decide_eq_true (by omega)]
              rfl
    · simp only [k2, decide_false, cond_false, if_false, Option.bind_some] at hl ⊢
      by_cases k3 : k = 3
      · subst k3
        simp only [decide_true, cond_true, if_true] at hl ⊢
        rw [by_1]
        cases hQ : blQ a b c d with
        | false => simp [rcR] <;> rfl
        | true =>
          cases hs : decide (sh = 0) with
          | false => simp [rcR] <;> rfl
          | true =>
            cases hA : blA (an0, an1, an2, an3) with
            | false => simp [rcR] <;> rfl
            | true =>
              cases hO : ordB n o with
              | false =>
                simp only [cond_true, Option.bind_some, if_false, Bool.false_eq_true, h_iShortText [] (by simp), Bool.and_false]
                simp [rcR] <;> rfl
              | true =>
                rw [hQ, hs, hA, hO] at hl
                have := hl rfl
                have hal := oT_len hO
                simp only [cond_true, Option.bind_some, if_true, h_iShortText _ hal, Bool.and_self, Bool.not_true, cond_false, BA_size, BA_app, List.length_append, List.length_cons, List.length_nil] at this ⊢
                rw [decide_eq_true (by omega)]
                rfl
      · simp only [k3, decide_false, cond_false, if_false, Option.bind_some]
        rfl
theorem bk1 : ByteArray.mk #[1] = BA [1] := by rfl
theorem bk2 : ByteArray.mk #[2] = BA [2] := by rfl
theorem bk3 : ByteArray.mk #[3] = BA [3] := by rfl
theorem w_sRecText (n : Int) (r : Rc) (h1 : r.2.2.2.2.2.2.2.2.1.length ≤ 1048576) (h2 : r.2.2.2.2.2.2.2.2.2.1.length ≤ 1048576) (h3 : r.2.2.2.2.2.2.2.2.2.2.2.2.1.length ≤ 1048576) : g_sRecText (n, r) = some (rcR (rcT n r), ()) := by
  obtain ⟨k, a, b, c, d, sh, an0, an1, an2, an3, o⟩ := r
  simp only at h1 h2 h3
  have hm : maxLen = 9223372036854775807 := by decide
  show f_sRecText BIG _ = _
  rw [e_sRecText]
  dsimp only
  simp only [bk1, bk2, bk3]
  rw [h_sl10Blank (an0, an1, an2, an3) (by simp only; omega) (by simp only; omega), h_sl13BlankOrder o (by omega), h_sl13BlankAsk]
  simp only [h_sl01In']
  rw [w_sAnswerText n (an0, an1, an2, an3) h1 h2, w_sOrderText n o h3]
  unfold rcT
  simp only [Option.bind_some]
  by_cases k1 : k = 1
  · subst k1
    simp only [decide_true, cond_true, if_true]
    cases hs : decide (sh = 0) with
    | false => simp [rcR] <;> rfl
    | true =>
      cases hA : blA (an0, an1, an2, an3) with
      | false => simp [rcR] <;> rfl
      | true =>
        cases hO : blO o with
        | false => simp [rcR] <;> rfl
        | true =>
          cases qa : inB a 0 100000 with
          | false => simp [rcR] <;> rfl
          | true =>
            cases qb : inB b 0 100000 with
            | false => simp [rcR] <;> rfl
            | true =>
              cases qc : inB c 0 100000 with
              | false => simp [rcR] <;> rfl
              | true =>
                cases qd : inB d 0 100000 with
                | false => simp [rcR] <;> rfl
                | true =>
                  rw [inB_t] at qa qb qc qd
                  have wa := w_sl01Var a.toNat (by omega)
                  have wb := w_sl01Var b.toNat (by omega)
                  have wc := w_sl01Var c.toNat (by omega)
                  have wd := w_sl01Var d.toNat (by omega)
                  rw [Int.toNat_of_nonneg (by omega)] at wa wb wc wd
                  have la := vB_len (v := a.toNat) (by omega)
                  have lb := vB_len (v := b.toNat) (by omega)
                  have lc := vB_len (v := c.toNat) (by omega)
                  have ld := vB_len (v := d.toNat) (by omega)
                  simp only [cond_true, if_true, Option.bind_some, Bool.not_true, cond_false, Bool.and_self, wa, wb, wc, wd, by_1, BA_app, BA_size, List.length_append, List.length_cons, List.length_nil]
                  rw [decide_eq_true (by omega), decide_eq_true (by omega), decide_eq_true (by omega), decide_eq_true (by omega)]
                  simp [rcR]
  · simp only [k1, decide_false, cond_false, if_false, Option.bind_some]
    by_cases k2 : k = 2
    · subst k2
      simp only [decide_true, cond_true, if_true]
      cases hQ : blQ a b c d with
      | false => cases hA : ansB n (an0, an1, an2, an3) <;> simp [rcR] <;> rfl
      | true =>
        cases hO : blO o with
        | false => cases hA : ansB n (an0, an1, an2, an3) <;> simp [rcR] <;> rfl
        | true =>
          cases hs : inB sh 0 100000 with
          | false => cases hA : ansB n (an0, an1, an2, an3) <;> simp [rcR] <;> rfl
          | true =>
            cases hA : ansB n (an0, an1, an2, an3) with
            | false => simp [rcR] <;> rfl
            | true =>
              have hal := aT_len hA
              rw [inB_t] at hs
              have wa := w_sl01Var sh.toNat (by omega)
              rw [Int.toNat_of_nonneg (by omega)] at wa
              have wb := w_sl01Var (aT (an0, an1, an2, an3)).length (by omega)
              have la := vB_len (v := sh.toNat) (by omega)
              have lb := vB_len (v := (aT (an0, an1, an2, an3)).length) (by omega)
              simp only [cond_true, if_true, Option.bind_some, Bool.not_true, cond_false, Bool.and_self, wa, wb, by_1, BA_app, BA_size, List.length_append, List.length_cons, List.length_nil]
              rw [decide_eq_true (by omega), decide_eq_true (by omega), decide_eq_true (by omega)]
              simp [rcR]
    · simp only [k2, decide_false, cond_false, if_false, Option.bind_some]
      by_cases k3 : k = 3
      · subst k3
        simp only [decide_true, cond_true, if_true]
        cases hO : ordB n o with
        | false => simp [rcR] <;> rfl
        | true =>
          cases hQ : blQ a b c d with
          | false => simp [rcR] <;> rfl
          | true =>
            cases hA : blA (an0, an1, an2, an3) with
            | false => simp [rcR] <;> rfl
            | true =>
              cases hs : decide (sh = 0) with
              | false => simp [rcR] <;> rfl
              | true =>
                have hal := oT_len hO
                have wb := w_sl01Var (oT o).length (by omega)
                have lb := vB_len (v := (oT o).length) (by omega)
                simp only [cond_true, if_true, Option.bind_some, Bool.not_true, cond_false, Bool.and_self, wb, by_1, BA_app, BA_size, List.length_append, List.length_cons, List.length_nil]
                rw [decide_eq_true (by omega), decide_eq_true (by omega)]
                simp [rcR]
      · simp only [k3, decide_false, cond_false, if_false, Option.bind_some]
        rfl
theorem wr32_in (x : Int) : 0 ≤ IntKind.wrap .u32 x ∧ IntKind.wrap .u32 x ≤ 4294967295 := by
  simp only [IntKind.wrap, IntKind.bits, IntKind.signed]
  simp
  omega
theorem bl32 (op : BinOp) (a b : Int) : 0 ≤ bits op .u32 a b := (wr32_in _).1
theorem bh32 (op : BinOp) (a b : Int) : bits op .u32 a b ≤ 4294967295 := (wr32_in _).2
theorem band1 (x : Int) (h0 : 0 ≤ x) (h1 : x ≤ 4294967295) : bits .and .u32 x 1 = x % 2 := by
  obtain ⟨a, rfl⟩ : ∃ a : Nat, x = a := ⟨x.toNat, by omega⟩
  have e1 : (BitVec.ofInt 32 (a : Int)).toNat = a := by
    rw [BitVec.ofInt_natCast, BitVec.toNat_ofNat]; exact Nat.mod_eq_of_lt (by omega)
  have e2 : (BitVec.ofInt 32 (1 : Int)).toNat = 1 := by decide
  show IntKind.u32.wrap ((BitVec.ofInt 32 (a : Int) &&& BitVec.ofInt 32 (1 : Int)).toNat : Int) = _
  rw [BitVec.toNat_and, e1, e2, Nat.and_one_is_mod]
  have : IntKind.u32.wrap ((a % 2 : Nat) : Int) = ((a % 2 : Nat) : Int) := by
    simp only [IntKind.wrap, IntKind.bits, IntKind.signed]
    simp
    omega
  rw [this]; omega
theorem wr32 {x : Int} (h0 : 0 ≤ x) (h1 : x ≤ 4294967295) : IntKind.wrap .u32 x = x := by
  simp only [IntKind.wrap, IntKind.bits, IntKind.signed]
  simp
  omega
def stp (x : Int) : Int := if x % 2 = 1 then bits .xor .u32 (x / 2) 3558460437 else x / 2
theorem stp_in {x : Int} (h0 : 0 ≤ x) (h1 : x ≤ 4294967295) : 0 ≤ stp x ∧ stp x ≤ 4294967295 := by
  unfold stp
  split
  · exact ⟨bl32 _ _ _, bh32 _ _ _⟩
  · omega
def it8 : Nat → Int → Int
  | 0, v => v
  | k + 1, v => it8 k (stp v)
theorem it8_in : ∀ (k : Nat) {x : Int}, 0 ≤ x → x ≤ 4294967295 → 0 ≤ it8 k x ∧ it8 k x ≤ 4294967295
  | 0, _, h0, h1 => ⟨h0, h1⟩
  | k + 1, x, h0, h1 => it8_in k (stp_in h0 h1).1 (stp_in h0 h1).2
theorem innerL {F : (Int × Int → Option Int) → Int × Int → Option Int} (v : Int) (h0 : 0 ≤ v) (h1 : v ≤ 4294967295)
    (hF : ∀ self (x : Int) (i : Nat), 0 ≤ x → x ≤ 4294967295 → i < 8 → F self (x, (i : Int)) = self (stp x, ((i + 1 : Nat) : Int)))
    (hE : ∀ self x, F self (x, ((8 : Nat) : Int)) = some x) : loopT BIG F (v, 0) = some (it8 8 v) := by
  have L := loop_eq (F := F) (fun x => ∃ i : Nat, x.2 = (i : Int) ∧ i ≤ 8 ∧ 0 ≤ x.1 ∧ x.1 ≤ 4294967295) (fun x => 8 - x.2.toNat) (fun x => it8 (8 - x.2.toNat) x.1) (fun self x ⟨i, a1, a2, a3, a4⟩ hs => by
    obtain ⟨x, j⟩ := x
    simp only at a1 a3 a4 hs ⊢
    subst a1
    by_cases hi : i < 8
    · rw [hF self x i a3 a4 hi, hs (stp x, ((i + 1 : Nat) : Int)) ⟨i + 1, rfl, hi, (stp_in a3 a4).1, (stp_in a3 a4).2⟩ (by simp; omega)]
      simp only [Int.toNat_natCast]
      rw [show 8 - i = (8 - (i + 1)) + 1 from by omega]; rfl
    · have : i = 8 := by omega
      subst this
      rw [hE]; rfl) (n := BIG) (x := (v, 0)) (by show 8 - 0 < BIG; decide) ⟨0, rfl, by omega, h0, h1⟩
  exact L
def smS (s : Int) (b : UInt8) : Int := it8 8 (bits .xor .u32 s (b.toNat : Int))
def smT (s : Int) (T : List UInt8) : Int := T.foldl smS s
theorem w_iSumMore (s : Int) (T : List UInt8) (h0 : 0 ≤ s) (h1 : s ≤ 4294967295) (hl : T.length ≤ 2097152) : g_iSumMore (s, BA T) = some (smT s T, ()) := by
  have hm : maxLen = 9223372036854775807 := by decide
  show f_iSumMore BIG _ = _
  rw [e_iSumMore, BA_size]
  rw [foldLoop T (by omega) (fun _ (x : Int) => 0 ≤ x ∧ x ≤ 4294967295) smS id ⟨h0, h1⟩ (fun i x b _ h => it8_in 8 (bl32 _ _ _) (bh32 _ _ _))]
  · rfl
  · intro self x i b hb h
    have hi := (List.getElem?_eq_some_iff.1 hb).1
    simp only [show ((i : Int) < (T.length : Int)) from by omega, decide_true, cond_true]
    have := b.toNat_lt
    rw [bnd_nat hi, BA_get, hb, Option.bind_some, wr32 (by omega) (by omega), innerL _ (bl32 _ _ _) (bh32 _ _ _)]
    · rw [Option.bind_some, wr1 (by omega)]; rfl
    · intro self x i a0 a1 a2
      simp only [show ((i : Int) < 8) from by omega, decide_true, cond_true]
      rw [band1 x a0 a1, wr1 (by omega), show Int.fdiv x (2 ^ (Nat.min (Int.toNat (1 : Int)) (IntKind.bits .u32))) = x / 2 from by
        show Int.fdiv x (2 ^ 1) = _
        rw [Int.fdiv_eq_ediv_of_nonneg _ (by omega)]; rfl]
      unfold stp
      by_cases hx : x % 2 = 1
      · rw [decide_eq_true hx, if_pos hx]; rfl
      · rw [decide_eq_false hx, if_neg hx]; rfl
    · intro self x; rfl
  · intro self x h; simp
theorem w_sSumMore (s : Int) (T : List UInt8) (h0 : 0 ≤ s) (h1 : s ≤ 4294967295) (hl : T.length ≤ 2097152) : g_sSumMore (s, BA T) = some (smT s T, ()) := by
  have hm : maxLen = 9223372036854775807 := by decide
  show f_sSumMore BIG _ = _
  rw [e_sSumMore, BA_size]
  rw [foldLoop T (by omega) (fun _ (x : Int) => 0 ≤ x ∧ x ≤ 4294967295) smS id ⟨h0, h1⟩ (fun i x b _ h => it8_in 8 (bl32 _ _ _) (bh32 _ _ _))]
  · rfl
  · intro self x i b hb h
    have hi := (List.getElem?_eq_some_iff.1 hb).1
    simp only [show ((i : Int) < (T.length : Int)) from by omega, decide_true, cond_true]
    have := b.toNat_lt
    rw [bnd_nat hi, BA_get, hb, Option.bind_some, wr32 (by omega) (by omega), innerL _ (bl32 _ _ _) (bh32 _ _ _)]
    · rw [Option.bind_some, wr1 (by omega)]; rfl
    · intro self x i a0 a1 a2
      simp only [show ((i : Int) < 8) from by omega, decide_true, cond_true]
      rw [Int.tmod_eq_emod_of_nonneg a0, Int.tdiv_eq_ediv_of_nonneg a0, wr32 (by omega) (by omega), wr1 (by omega)]
      unfold stp
      by_cases hx : x % 2 = 1
      · rw [decide_eq_true hx, if_pos hx]; rfl
      · rw [decide_eq_false hx, if_neg hx]; rfl
    · intro self x; rfl
  · intro self x h; simp
theorem w_iSumOf (T : List UInt8) (hl : T.length ≤ 2097152) : g_iSumOf (BA T) = some (smT 4294967295 T, ()) := by
  show f_iSumOf BIG _ = _
  rw [e_iSumOf, w_iSumMore _ T (by omega) (by omega) hl]; rfl
theorem w_sSumOf (T : List UInt8) (hl : T.length ≤ 2097152) : g_sSumOf (BA T) = some (smT 4294967295 T, ()) := by
  show f_sSumOf BIG _ = _
  rw [e_sSumOf, w_sSumMore _ T (by omega) (by omega) hl]; rfl
/-- Four bytes of a sum. -/
def fourT (x : Int) : List UInt8 := [Int.fdiv x (2 ^ (Nat.min (Int.toNat (24 : Int)) (IntKind.bits .u32))), Int.fdiv x (2 ^ (Nat.min (Int.toNat (16 : Int)) (IntKind.bits .u32))), Int.fdiv x (2 ^ (Nat.min (Int.toNat (8 : Int)) (IntKind.bits .u32))), x].map by8
theorem four_eq (x : Int) : bytesStr ([IntKind.wrap .u8 (Int.fdiv x (2 ^ (Nat.min (Int.toNat (24 : Int)) (IntKind.bits .u32)))), IntKind.wrap .u8 (Int.fdiv x (2 ^ (Nat.min (Int.toNat (16 : Int)) (IntKind.bits .u32)))), IntKind.wrap .u8 (Int.fdiv x (2 ^ (Nat.min (Int.toNat (8 : Int)) (IntKind.bits .u32)))), IntKind.wrap .u8 (x)]) = BA (fourT x) := bytes_by [Int.fdiv x (2 ^ (Nat.min (Int.toNat (24 : Int)) (IntKind.bits .u32))), Int.fdiv x (2 ^ (Nat.min (Int.toNat (16 : Int)) (IntKind.bits .u32))), Int.fdiv x (2 ^ (Nat.min (Int.toNat (8 : Int)) (IntKind.bits .u32))), x]
theorem four_len (x : Int) : (fourT x).length = 4 := rfl
def frT (T : List UInt8) : Option (List UInt8) := if inB (T.length : Int) 1 9000 then some ((vB T.length ++ fourT (smT 4294967295 T)) ++ T) else none
def txR : Option (List UInt8) → ByteArray × Bool
  | some s => (BA s, true)
  | none => (BA [], false)
theorem w_iFrame (T : List UInt8) (hl : T.length ≤ 2097152) : g_iFrame (BA T) = some (txR (frT T), ()) := by
  show f_iFrame BIG _ = _
  rw [e_iFrame, BA_size, h_iin', Option.bind_some]
  unfold frT
  cases hb : inB (T.length : Int) 1 9000 with
  | false => rfl
  | true =>
    rw [inB_t] at hb
    have hv := vB_len (v := T.length) (by omega)
    simp only [Bool.not_true, cond_false, if_true]
    rw [w_iVarText, Option.bind_some, show inB (T.length : Int) 0 1000000000 = true from inB_t.2 (by omega), if_pos rfl, Int.toNat_natCast, w_iSumOf T hl, Option.bind_some]
    simp only [four_eq, BA_app, BA_size, List.length_append, four_len]
    rw [decide_eq_true (show (vB T.length).length + 4 ≤ 4611686018427387904 from by omega), decide_eq_true (show (vB T.length).length + 4 + T.length ≤ 4611686018427387904 from by omega)]
    rfl
theorem w_sFrame (T : List UInt8) (hl : T.length ≤ 2097152) : g_sFrame (BA T) = some (txR (frT T), ()) := by
  show f_sFrame BIG _ = _
  rw [e_sFrame, BA_size, h_sl01In', Option.bind_some]
  unfold frT
  cases hb : inB (T.length : Int) 1 9000 with
  | false => rfl
  | true =>
    rw [inB_t] at hb
    have hv := vB_len (v := T.length) (by omega)
    have h4 : ∀ x, g_sl02Four x = some (BA (fourT x), ()) := by
      intro x
      show f_sl02Four BIG _ = _
      rw [e_sl02Four, four_eq]; rfl
    simp only [Bool.not_true, cond_false, if_true]
    rw [w_sl01Var T.length (by omega), Option.bind_some, w_sSumOf T hl, Option.bind_some, h4, Option.bind_some]
    simp only [BA_app, BA_size, List.length_append, four_len]
    rw [decide_eq_true (show (vB T.length).length + 4 ≤ 4611686018427387904 from by omega), decide_eq_true (show (vB T.length).length + 4 + T.length ≤ 4611686018427387904 from by omega)]
    rfl
abbrev Act' := Int × ByteArray × ByteArray × ByteArray
def laR (n : Int) (r : Rc) : List Act' × Bool := match rcT n r with
  | some t => ([((1 : Int), (ByteArray.mk #[108, 111, 103]), (txR (frT t)).1, ByteArray.empty), ((2 : Int), (ByteArray.mk #[108, 111, 103]), ByteArray.empty, ByteArray.empty)], true)
  | none => ([], false)
theorem frT_some {n : Int} {r : Rc} {t : List UInt8} (h : rcT n r = some t) : ∃ u, frT t = some u := by
  have := rcT_len h
  unfold frT
  rw [show inB (t.length : Int) 1 9000 = true from inB_t.2 (by omega)]
  exact ⟨_, rfl⟩
theorem w_sLogActs (d : List (ByteArray × ByteArray × Int)) (n : Int) (r : Rc) (h1 : r.2.2.2.2.2.2.2.2.1.length ≤ 1048576) (h2 : r.2.2.2.2.2.2.2.2.2.1.length ≤ 1048576) (h3 : r.2.2.2.2.2.2.2.2.2.2.2.2.1.length ≤ 1048576) : g_sLogActs (d, n, r) = some (laR n r, ()) := by
  show f_sLogActs BIG _ = _
  rw [e_sLogActs, w_sRecText n r h1 h2 h3, Option.bind_some]
  unfold laR
  cases h : rcT n r with
  | none => rfl
  | some t =>
    have := rcT_len h
    simp only [rcR, Bool.not_true, cond_false]
    rw [w_sFrame t (by omega)]; rfl
theorem w_iLogActs (d : List (ByteArray × ByteArray × Int)) (n : Int) (r : Rc) (h1 : r.2.2.2.2.2.2.2.2.1.length ≤ 1048576) (h2 : r.2.2.2.2.2.2.2.2.2.1.length ≤ 1048576) (h3 : r.2.2.2.2.2.2.2.2.2.2.2.2.1.length ≤ 1048576) : g_iLogActs (d, n, r) = some (laR n r, ()) := by
  show f_iLogActs BIG _ = _
  rw [e_iLogActs, w_iRecText n r h1 h2 h3, Option.bind_some]
  unfold laR
  cases h : rcT n r with
  | none =>
    have e : g_iFrame (BA []) = some (txR (frT []), ()) := w_iFrame [] (by simp)
    simp only [rcR]
    rw [e]; rfl
  | some t =>
    have := rcT_len h
    obtain ⟨u, hu⟩ := frT_some h
    simp only [rcR]
    rw [w_iFrame t (by omega), hu]; rfl
theorem ex_lmarkText (k : Int) (h : k ≤ 4611686018427387800) : ∃ t, g_lmarkText k = some (t, ()) := by
  have e : g_lmarkText k = f_lmarkText BIG k := rfl
  rw [e, e_lmarkText]
  by_cases h0 : k ≤ 0
  · rw [decide_eq_true h0, cond_true]; exact ⟨_, rfl⟩
  · rw [decide_eq_false h0, cond_false]
    have L := loop_rel (B := ByteArray) (F := fun self1 (x0 : ByteArray × Int) =>
      bif decide ((0 : Int) < x0.2) then
       bif decide ((10 : Int) = 0) then
        none
       else bif decide ((bytesStr ([IntKind.wrap .u8 (IntKind.wrap .i64 ((48 : Int) + (Int.tmod x0.2 (10 : Int))))])).size + x0.1.size ≤ 4611686018427387904) then
        bif decide ((10 : Int) = 0) then
         none
        else self1 ((bytesStr ([IntKind.wrap .u8 (IntKind.wrap .i64 ((48 : Int) + (Int.tmod x0.2 (10 : Int))))])) ++ x0.1, IntKind.wrap .i64 (Int.tdiv x0.2 (10 : Int)))
       else none
      else some x0.1) (fun x => 0 ≤ x.2 ∧ (x.1.size : Int) + x.2 ≤ k) (fun x => x.2.toNat) (fun _ b => (b.size : Int) ≤ k) (fun self x ⟨a1, a2⟩ hs => ?_) (n := BIG) (x := ((ByteArray.mk #[]), k)) (by simp [BIG]; omega) ⟨by simp only; omega, by simp only; exact Int.le_of_eq (Int.zero_add k)⟩
    · obtain ⟨b, b1, b2⟩ := L
      rw [b1, Option.bind_some]
      have hb : (ByteArray.mk #[109]).size = 1 := rfl
      rw [hb, decide_eq_true (by omega), cond_true]
      exact ⟨_, rfl⟩
    · obtain ⟨s, x⟩ := x
      simp only at a1 a2 hs ⊢
      by_cases hx : 0 < x
      · rw [decide_eq_true hx, cond_true, by_1, ← BA_data s, BA_app, BA_size, BA_size]
        have hsz : s.size = s.data.toList.length := by
          have := congrArg ByteArray.size (BA_data s)
          rw [BA_size] at this; exact this.symm
        rw [hsz] at a2
        rw [Int.tdiv_eq_ediv_of_nonneg (by omega), wr (n := x / 10) (by omega) (by omega), decide_eq_true (show [by8 (IntKind.wrap .i64 ((48 : Int) + (Int.tmod x (10 : Int))))].length + s.data.toList.length ≤ 4611686018427387904 from by simp only [List.length_cons, List.length_nil]; omega)]
        simp only [show decide ((10 : Int) = 0) = false from rfl, cond_false, cond_true]
        refine hs _ ⟨?_, ?_⟩ ?_
        · simp only; omega
        · simp only [BA_size, List.length_append, List.length_cons, List.length_nil]; omega
        · simp only; omega
      · rw [decide_eq_false hx, cond_false]
        exact ⟨_, rfl, by omega⟩
open Classical in
noncomputable def mTx (k : Int) : ByteArray := if h : k ≤ 4611686018427387800 then (ex_lmarkText k h).choose else ByteArray.empty
theorem m_lmarkText (k : Int) (h : k ≤ 4611686018427387800) : g_lmarkText k = some (mTx k, ()) := by
  unfold mTx
  rw [dif_pos h]
  exact (ex_lmarkText k h).choose_spec
abbrev Fl := ByteArray × ByteArray × Int
theorem to_FileS (a : List Fl) (h : a.length ≤ 1048576) : g_ltoFileS a = some (a, ()) := by
  have hm : maxLen = 9223372036854775807 := by decide
  show f_ltoFileS BIG _ = _
  rw [e_ltoFileS, decide_eq_true (by omega), cond_true, decide_eq_true (by simp; omega), cond_true]
  simp only [Int.toNat_natCast]
  rw [cpLoop a (by omega)]
  · rfl
  · intro self out i y hl hy
    have hi := (List.getElem?_eq_some_iff.1 hy).1
    simp only [show ((i : Int) < (a.length : Int)) from by omega, decide_true, cond_true]
    have e : g_ltoFile y = some (y, ()) := by
      show f_ltoFile BIG _ = _
      rw [e_ltoFile]
    rw [bnd_nat hi, hy, Option.bind_some, e, Option.bind_some]
    rw [bnd_nat (by omega), List.getElem?_eq_getElem (by omega), Option.bind_some, wr1 (by omega)]
  · intro self out hl
    simp
theorem to_Disk (a : List Fl) (h : a.length ≤ 1048576) : g_ltoDisk a = some (a, ()) := by
  show f_ltoDisk BIG _ = _
  rw [e_ltoDisk, to_FileS a h]; rfl
theorem eq_FileS (a : List Fl) (h : a.length ≤ 1048576) : g_leqFileS (a, a) = some (true, ()) := by
  have hm : maxLen = 9223372036854775807 := by decide
  show f_leqFileS BIG _ = _
  rw [e_leqFileS, decide_eq_true rfl, Bool.not_true, cond_false, allLoop a (by omega) (fun _ => true) false]
  · rw [if_pos (fun _ _ => rfl)]; rfl
  · intro self i y hy
    have hi := (List.getElem?_eq_some_iff.1 hy).1
    have e : g_leqFile (y, y) = some (true, ()) := by
      show f_leqFile BIG _ = _
      rw [e_leqFile]; simp
    simp only [show ((i : Int) < (a.length : Int)) from by omega, decide_true, cond_true]
    rw [bnd_nat hi, hy, Option.bind_some, bnd_nat hi, hy, Option.bind_some, e, Option.bind_some, wr1 (by omega)]
    rfl
  · intro self; simp
theorem eq_Disk (a : List Fl) (h : a.length ≤ 1048576) : g_leqDisk (a, a) = some (true, ()) := by
  show f_leqDisk BIG _ = _
  rw [e_leqDisk, eq_FileS a h]; rfl
theorem eq_ActS (a : List Act') (h : a.length ≤ 1048576) : g_leqActS (a, a) = some (true, ()) := by
  have hm : maxLen = 9223372036854775807 := by decide
  show f_leqActS BIG _ = _
  rw [e_leqActS, decide_eq_true rfl, Bool.not_true, cond_false, allLoop a (by omega) (fun _ => true) false]
  · rw [if_pos (fun _ _ => rfl)]; rfl
  · intro self i y hy
    have hi := (List.getElem?_eq_some_iff.1 hy).1
    have e : g_leqAct (y, y) = some (true, ()) := by
      show f_leqAct BIG _ = _
      rw [e_leqAct]; simp
    simp only [show ((i : Int) < (a.length : Int)) from by omega, decide_true, cond_true]
    rw [bnd_nat hi, hy, Option.bind_some, bnd_nat hi, hy, Option.bind_some, e, Option.bind_some, wr1 (by omega)]
    rfl
  · intro self; simp
def hd_FileS (k : Int) (z : Fl) (k' : Int) : Prop := z = (mTx k, mTx (k + 1), k + 1 + 1) ∧ k' = k + 1 + 1 + 1 ∧ 0 ≤ k ∧ k ≤ 4611686018427387000
theorem mk_FileS (a : List Fl) (k : Int) (h0 : 0 ≤ k) (hk : k + 50331648 ≤ 4611686018427387000) (hz : a.length ≤ 16777216) : ∃ t c, g_lmarkFileS (a, k) = some (c, t) ∧ k ≤ c ∧ c ≤ k + 50331648 := by
  have hm : maxLen = 9223372036854775807 := by decide
  have L := mkLoop hd_FileS 3 (by omega) a k (by omega) (F := fun self1 x0 =>
    bif decide (x0.2.2 < (x0.1.length : Int)) then
     Option.bind (g_lmarkText x0.2.1) fun r2 =>
     bnd x0.1.length x0.2.2 fun n3 =>
     Option.bind x0.1[n3]? fun y4 =>
     Option.bind (g_lmarkText (IntKind.wrap .i64 (x0.2.1 + (1 : Int)))) fun r5 =>
     bnd (x0.1.set n3 (r2.1, y4.2)).length x0.2.2 fun n6 =>
     Option.bind (x0.1.set n3 (r2.1, y4.2))[n6]? fun y7 =>
     bnd ((x0.1.set n3 (r2.1, y4.2)).set n6 (y7.1, r5.1, y7.2.2)).length x0.2.2 fun n8 =>
     Option.bind ((x0.1.set n3 (r2.1, y4.2)).set n6 (y7.1, r5.1, y7.2.2))[n8]? fun y9 =>
     self1 (((x0.1.set n3 (r2.1, y4.2)).set n6 (y7.1, r5.1, y7.2.2)).set n8 (y9.1, y9.2.1, IntKind.wrap .i64 ((IntKind.wrap .i64 (x0.2.1 + (1 : Int))) + (1 : Int))), IntKind.wrap .i64 ((IntKind.wrap .i64 ((IntKind.wrap .i64 (x0.2.1 + (1 : Int))) + (1 : Int))) + (1 : Int)), IntKind.wrap .i64 (x0.2.2 + (1 : Int)))
    else some (x0.1, x0.2.1)) (by
    intro self out i k y hi hl hy _ hk0 hk1
    have hi' : i < out.length := by omega
    have w1 : IntKind.wrap .i64 (k + 1) = k + 1 := wr (by omega) (by omega)
    have w2 : IntKind.wrap .i64 (k + 1 + 1) = k + 1 + 1 := wr (by omega) (by omega)
    have w3 : IntKind.wrap .i64 (k + 1 + 1 + 1) = k + 1 + 1 + 1 := wr (by omega) (by omega)
    have t1 := m_lmarkText k (by omega)
    have t2 := m_lmarkText (k + 1) (by omega)
    refine ⟨(mTx k, mTx (k + 1), k + 1 + 1), k + 1 + 1 + 1, ⟨rfl, rfl, by omega, by omega⟩, by omega, by omega, ?_⟩
    simp only [hl, show ((i : Int) < (a.length : Int)) from by omega, decide_true, cond_true, List.length_set, bnd_nat hi, hy, List.getElem?_set_self hi', Option.bind_some, List.set_set, w1, w2, w3, t1, t2, and_true]
    rw [wr1 (by omega)]) (by
    intro self out k hl
    simp [hl])
  obtain ⟨t, c, e1, e2, e3, e4, e5⟩ := L
  refine ⟨t, c, ?_, e4, by omega⟩
  show f_lmarkFileS BIG _ = _
  rw [e_lmarkFileS, e1]
  rfl
def hd_ActS (k : Int) (z : Act') (k' : Int) : Prop := z = (k, mTx (k + 1), mTx (k + 1 + 1), mTx (k + 1 + 1 + 1)) ∧ k' = k + 1 + 1 + 1 + 1 ∧ 0 ≤ k ∧ k ≤ 4611686018427387000
theorem mh_ActS (a : List Act') (k : Int) (h0 : 0 ≤ k) (hk : k + 67108864 ≤ 4611686018427387000) (hz : a.length ≤ 16777216) : ∃ t c, g_lmarkActS (a, k) = some (c, t) ∧ g_lheldActS (t, k) = some (c, ()) ∧ k ≤ c ∧ c ≤ k + 67108864 := by
  have hm : maxLen = 9223372036854775807 := by decide
  have L := mkLoop hd_ActS 4 (by omega) a k (by omega) (F := fun self1 x0 =>
    bif decide (x0.2.2 < (x0.1.length : Int)) then
     bnd x0.1.length x0.2.2 fun n2 =>
     Option.bind x0.1[n2]? fun y3 =>
     Option.bind (g_lmarkText (IntKind.wrap .i64 (x0.2.1 + (1 : Int)))) fun r4 =>
     bnd (x0.1.set n2 (x0.2.1, y3.2)).length x0.2.2 fun n5 =>
     Option.bind (x0.1.set n2 (x0.2.1, y3.2))[n5]? fun y6 =>
     Option.bind (g_lmarkText (IntKind.wrap .i64 ((IntKind.wrap .i64 (x0.2.1 + (1 : Int))) + (1 : Int)))) fun r7 =>
     bnd ((x0.1.set n2 (x0.2.1, y3.2)).set n5 (y6.1, r4.1, y6.2.2)).length x0.2.2 fun n8 =>
     Option.bind ((x0.1.set n2 (x0.2.1, y3.2)).set n5 (y6.1, r4.1, y6.2.2))[n8]? fun y9 =>
     Option.bind (g_lmarkText (IntKind.wrap .i64 ((IntKind.wrap .i64 ((IntKind.wrap .i64 (x0.2.1 + (1 : Int))) + (1 : Int))) + (1 : Int)))) fun r10 =>
     bnd (((x0.1.set n2 (x0.2.1, y3.2)).set n5 (y6.1, r4.1, y6.2.2)).set n8 (y9.1, y9.2.1, r7.1, y9.2.2.2)).length x0.2.2 fun n11 =>
     Option.bind (((x0.1.set n2 (x0.2.1, y3.2)).set n5 (y6.1, r4.1, y6.2.2)).set n8 (y9.1, y9.2.1, r7.1, y9.2.2.2))[n11]? fun y12 =>
     self1 ((((x0.1.set n2 (x0.2.1, y3.2)).set n5 (y6.1, r4.1, y6.2.2)).set n8 (y9.1, y9.2.1, r7.1, y9.2.2.2)).set n11 (y12.1, y12.2.1, y12.2.2.1, r10.1), IntKind.wrap .i64 ((IntKind.wrap .i64 ((IntKind.wrap .i64 ((IntKind.wrap .i64 (x0.2.1 + (1 : Int))) + (1 : Int))) + (1 : Int))) + (1 : Int)), IntKind.wrap .i64 (x0.2.2 + (1 : Int)))
    else some (x0.1, x0.2.1)) (by
    intro self out i k y hi hl hy _ hk0 hk1
    have hi' : i < out.length := by omega
    have w1 : IntKind.wrap .i64 (k + 1) = k + 1 := wr (by omega) (by omega)
    have w2 : IntKind.wrap .i64 (k + 1 + 1) = k + 1 + 1 := wr (by omega) (by omega)
    have w3 : IntKind.wrap .i64 (k + 1 + 1 + 1) = k + 1 + 1 + 1 := wr (by omega) (by omega)
    have w4 : IntKind.wrap .i64 (k + 1 + 1 + 1 + 1) = k + 1 + 1 + 1 + 1 := wr (by omega) (by omega)
    have t1 := m_lmarkText (k + 1) (by omega)
    have t2 := m_lmarkText (k + 1 + 1) (by omega)
    have t3 := m_lmarkText (k + 1 + 1 + 1) (by omega)
    refine ⟨(k, mTx (k + 1), mTx (k + 1 + 1), mTx (k + 1 + 1 + 1)), k + 1 + 1 + 1 + 1, ⟨rfl, rfl, by omega, by omega⟩, by omega, by omega, ?_⟩
    simp only [hl, show ((i : Int) < (a.length : Int)) from by omega, decide_true, cond_true, List.length_set, bnd_nat hi, hy, List.getElem?_set_self hi', Option.bind_some, List.set_set, w1, w2, w3, w4, t1, t2, t3, and_true]
    rw [wr1 (by omega)]) (by
    intro self out k hl
    simp [hl])
  obtain ⟨t, c, e1, e2, e3, e4, e5⟩ := L
  refine ⟨t, c, ?_, ?_, e4, by omega⟩
  · show f_lmarkActS BIG _ = _
    rw [e_lmarkActS, e1]
    rfl
  · show f_lheldActS BIG _ = _
    rw [e_lheldActS, hdLoop hd_ActS t k c (by omega) e2]
    · rfl
    · intro self i kk kk' z hz ⟨g1, g2, g3, g4⟩
      subst g2
      rw [g1] at hz
      have hi := (List.getElem?_eq_some_iff.1 hz).1
      have w1 : IntKind.wrap .i64 (kk + 1) = kk + 1 := wr (by omega) (by omega)
      have w2 : IntKind.wrap .i64 (kk + 1 + 1) = kk + 1 + 1 := wr (by omega) (by omega)
      have w3 : IntKind.wrap .i64 (kk + 1 + 1 + 1) = kk + 1 + 1 + 1 := wr (by omega) (by omega)
      have w4 : IntKind.wrap .i64 (kk + 1 + 1 + 1 + 1) = kk + 1 + 1 + 1 + 1 := wr (by omega) (by omega)
      have t1 := m_lmarkText (kk + 1) (by omega)
      have t2 := m_lmarkText (kk + 1 + 1) (by omega)
      have t3 := m_lmarkText (kk + 1 + 1 + 1) (by omega)
      simp only [show ((i : Int) < (t.length : Int)) from by omega, decide_true, cond_true, bnd_nat hi, hz, Option.bind_some, w1, w2, w3, w4, t1, t2, t3, Bool.not_true, cond_false, beq_self_eq_true]
      rw [wr1 (by omega)]
    · intro self k
      simp
def zFl (y : Fl) : Nat := y.1.size + y.2.1.size
def zFS (a : List Fl) : Nat := a.length + (a.map zFl).sum
theorem sz_FileS (a : List Fl) (l : Int) (h0 : 0 ≤ l) (h1 : l ≤ 1048576) (ha : a.length ≤ maxLen ∧ ∀ y, y ∈ a → y.1.size ≤ maxLen ∧ y.2.1.size ≤ maxLen) : g_lszFileS (a, l) = some (if ((zFS a : Nat) : Int) ≤ l then l - (zFS a : Nat) else -1, ()) := by
  have hm : maxLen = 9223372036854775807 := by decide
  have h2 := ha.1
  show f_lszFileS BIG _ = _
  rw [e_lszFileS, wr (by omega) (by omega)]
  unfold zFS
  by_cases h : ((a.length : Nat) : Int) ≤ l
  · rw [decide_eq_false (by omega), cond_false, szLoop a zFl (-1) (l - a.length) (by omega) (by omega) (by omega)]
    · by_cases hq : ((a.map zFl).sum : Int) ≤ l - a.length
      · rw [if_pos hq, if_pos (by omega)]
        simp only [Option.bind_some]
        rw [show l - (a.length : Int) - ((a.map zFl).sum : Nat) = l - ((a.length + (a.map zFl).sum : Nat) : Int) from by omega]
      · rw [if_neg hq, if_neg (by omega)]; rfl
    · intro self i l y hy l0 l1
      have hi := (List.getElem?_eq_some_iff.1 hy).1
      have hb := ha.2 y (List.mem_of_getElem? hy)
      simp only [show ((i : Int) < (a.length : Int)) from by omega, decide_true, cond_true]
      have e : g_lszFile (y, l) = some (if (zFl y : Int) ≤ l then l - zFl y else -1, ()) := by
        show f_lszFile BIG _ = _
        rw [e_lszFile, wr (n := l - (y.1.size : Int)) (by omega) (by omega)]
        unfold zFl
        by_cases c1 : l - (y.1.size : Int) < 0
        · rw [decide_eq_true c1, if_neg (by omega)]; rfl
        · rw [decide_eq_false c1, cond_false, wr (n := l - (y.1.size : Int) - (y.2.1.size : Int)) (by omega) (by omega)]
          by_cases c2 : l - (y.1.size : Int) - (y.2.1.size : Int) < 0
          · rw [decide_eq_true c2, if_neg (by omega)]; rfl
          · rw [decide_eq_false c2, if_pos (by omega), cond_false, show l - (y.1.size : Int) - (y.2.1.size : Int) = l - ((y.1.size + y.2.1.size : Nat) : Int) from by omega]
      rw [bnd_nat hi, hy, Option.bind_some, e, Option.bind_some]
      by_cases c : (zFl y : Int) ≤ l
      · rw [if_pos c, if_pos c, decide_eq_false (by omega), cond_false, wr1 (by omega)]
      · rw [if_neg c, if_neg c]; rfl
    · intro self l; simp
  · rw [decide_eq_true (by omega), cond_true, if_neg (by omega)]
theorem sz_Disk (a : List Fl) (l : Int) (h0 : 0 ≤ l) (h1 : l ≤ 1048576) (ha : a.length ≤ maxLen ∧ ∀ y, y ∈ a → y.1.size ≤ maxLen ∧ y.2.1.size ≤ maxLen) : g_lszDisk (a, l) = some (if ((zFS a : Nat) : Int) ≤ l then l - (zFS a : Nat) else -1, ()) := by
  show f_lszDisk BIG _ = _
  rw [e_lszDisk, sz_FileS a l h0 h1 ha, Option.bind_some]
  by_cases c : ((zFS a : Nat) : Int) ≤ l
  · rw [if_pos c, decide_eq_false (by omega), cond_false]
  · rw [if_neg c]; rfl
theorem law_lFnExactLogActs (d : List Fl) (n : Int) (x0 x1 x2 x3 x4 x5 x6 : Int) (x7 : Bool) (x8 : List (Int × Int)) (x9 : List Int) (x10 x11 : Int) (x12 : List (Int × Int)) (x13 : Int) (hd : d.length ≤ maxLen ∧ ∀ y, y ∈ d → y.1.size ≤ maxLen ∧ y.2.1.size ≤ maxLen) (h1 : x8.length ≤ maxLen) (h2 : x9.length ≤ maxLen) (h3 : x12.length ≤ maxLen) : g_lFnExactLogActs (d, n, x0, x1, x2, x3, x4, x5, x6, x7, x8, x9, x10, x11, x12, x13) = some (true, ()) := by
  show f_lFnExactLogActs BIG _ = _
  rw [e_lFnExactLogActs, sz_Disk d _ (by decide) (by decide) hd]
  by_cases hz : ((zFS d : Nat) : Int) ≤ 1048576
  case neg => rw [if_neg hz]; rfl
  rw [if_pos hz, Option.bind_some, decide_eq_false (show ¬ (1048576 : Int) - ((zFS d : Nat) : Int) < 0 from by omega), cond_false]
  simp only
  rw [sz_Rec x0 x1 x2 x3 x4 x5 x6 x7 x8 x9 x10 x11 x12 x13 _ (by omega) (by omega) h1 h2 h3]
  by_cases hl : (((x8.length + x9.length + x12.length) : Nat) : Int) ≤ 1048576 - ((zFS d : Nat) : Int)
  case neg => rw [if_neg hl]; rfl
  rw [if_pos hl, Option.bind_some, decide_eq_false (show ¬ (1048576 : Int) - ((zFS d : Nat) : Int) - (((x8.length + x9.length + x12.length) : Nat) : Int) < 0 from by omega), cond_false]
  have hd1 : d.length ≤ 1048576 := by
    have : d.length ≤ zFS d := Nat.le_add_right _ _
    omega
  obtain ⟨td, cd, m0, u0, u1⟩ := mk_FileS d 1 (by omega) (by omega) (by omega)
  have m0' : g_lmarkDisk (d, 1) = some (cd, td) := by
    show f_lmarkDisk BIG _ = _
    rw [e_lmarkDisk, m0]; rfl
  obtain ⟨t8, t9, t12, c1, m1, d1, l1, v1⟩ := mh_Rec x0 x1 x2 x3 x4 x5 x6 x7 x8 x9 x10 x11 x12 x13 cd (by omega) (by omega) (by omega)
  have ws := w_sLogActs d n (x0, x1, x2, x3, x4, x5, x6, x7, x8, x9, x10, x11, x12, x13) (by simp only; omega) (by simp only; omega) (by simp only; omega)
  have wi := w_iLogActs d n (x0, x1, x2, x3, x4, x5, x6, x7, x8, x9, x10, x11, x12, x13) (by simp only; omega) (by simp only; omega) (by simp only; omega)
  have hR : (laR n (x0, x1, x2, x3, x4, x5, x6, x7, x8, x9, x10, x11, x12, x13)).1.length ≤ 2 := by
    unfold laR
    split <;> simp
  generalize laR n (x0, x1, x2, x3, x4, x5, x6, x7, x8, x9, x10, x11, x12, x13) = R at ws wi hR
  obtain ⟨ta, ca, ma, da, la, va⟩ := mh_ActS R.1 1 (by omega) (by omega) (by omega)
  simp only [Option.bind_some, to_Disk d hd1, to_Rec x0 x1 x2 x3 x4 x5 x6 x7 x8 x9 x10 x11 x12 x13 (by omega), ws, wi, eq_ActS R.1 (by omega), eq_Disk d hd1, eq_Rec x0 x1 x2 x3 x4 x5 x6 x7 x8 x9 x10 x11 x12 x13 (by omega), Bool.not_true, cond_false, beq_self_eq_true, m0', m1, neg_f (show 1 ≤ c1 from by omega), ma, da, neg_f la, decide_true]
end Go.Fw
