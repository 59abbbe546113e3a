/- What the given functions come to. No conditions. -/
import Derived.Test.YtojipknoidbbgaaX1
import Derived.IntWalk
set_option linter.unusedVariables false
set_option linter.unusedSimpArgs false
namespace Go.Fw

theorem loop_rel {X B : Type} {F : (X → Option B) → X → Option B} (I : X → Prop) (μ : X → Nat) (Q : X → B → Prop)
    (h : ∀ self x, I x → (∀ y, I y → μ y < μ x → ∃ b, self y = some b ∧ Q y b) → ∃ b, F self x = some b ∧ Q x b) : ∀ {n : Nat} {x : X}, μ x < n → I x → ∃ b, loopT n F x = some b ∧ Q x b
  | 0, _, hn, _ => absurd hn (Nat.not_lt_zero _)
  | n + 1, x, hn, hi => h (it F n) x hi fun _ hy hm => loop_rel I μ Q h (n := n) (by omega) hy
theorem loop_eq {X B : Type} {F : (X → Option B) → X → Option B} (I : X → Prop) (μ : X → Nat) (R : X → B)
    (h : ∀ self x, I x → (∀ y, I y → μ y < μ x → self y = some (R y)) → F self x = some (R x)) {n : Nat} {x : X} (hn : μ x < n) (hi : I x) : loopT n F x = some (R x) := by
  obtain ⟨b, h1, h2⟩ := loop_rel (F := F) I μ (fun x b => b = R x) (fun self x hx hs => ⟨_, h self x hx fun y hy hm => by obtain ⟨b, h1, h2⟩ := hs y hy hm; rw [h1, h2], rfl⟩) hn hi
  rw [h1, h2]
theorem wr {n : Int} (h : -9223372036854775808 ≤ n) (h' : n ≤ 9223372036854775807) : IntKind.wrap .i64 n = n := by
  rw [IntKind.wrap_i64]; omega
theorem wr1 {i : Nat} (h : i < maxLen) : IntKind.wrap .i64 ((i : Int) + 1) = ((i + 1 : Nat) : Int) := by
  have : maxLen = 9223372036854775807 := by decide
  rw [wr (by omega) (by omega)]; rfl
theorem bnd_ok {B : Type} {len : Nat} {i : Int} {k : Nat → Option B} (h : 0 ≤ i) (h' : i < len) : bnd len i k = k i.toNat := by
  unfold bnd
  rw [if_pos ⟨h, by omega⟩]
theorem bnd_nat {B : Type} {len : Nat} {i : Nat} {k : Nat → Option B} (h' : i < len) : bnd len (i : Int) k = k i := by
  rw [bnd_ok (Int.natCast_nonneg i) (by omega)]
  simp
/-- A loop that copies a row. -/
theorem cpLoop {α : Type} (a : List α) (hl : a.length < 18446744073709551616) {z : α} {F : (List α × Int → Option (List α)) → List α × Int → Option (List α)}
    (hF : ∀ self out (i : Nat) y, out.length = a.length → a[i]? = some y → F self (out, (i : Int)) = self (out.set i y, ((i + 1 : Nat) : Int)))
    (hE : ∀ self out, out.length = a.length → F self (out, (a.length : Int)) = some out) : loopT BIG F (List.replicate a.length z, 0) = some a := by
  have := loop_eq (F := F) (fun x => ∃ i : Nat, x.2 = i ∧ i ≤ a.length ∧ x.1.length = a.length ∧ x.1.take i = a.take i) (fun x => a.length - x.2.toNat) (fun _ => a) (fun self x ⟨i, h1, h2, h3, h4⟩ hs => ?_) (n := BIG) (x := (List.replicate a.length z, 0)) (by simp; exact hl) ⟨0, rfl, by simp, by simp, by simp⟩
  · exact this
  · obtain ⟨out, j⟩ := x
    simp only at h1 h2 h3 h4
    subst h1
    by_cases hi : i < a.length
    · rw [hF self out i a[i] h3 (List.getElem?_eq_getElem hi)]
      refine hs _ ⟨i + 1, rfl, hi, by simpa using h3, ?_⟩ (by simp; omega)
      rw [List.take_set, List.take_succ_eq_append_getElem (by omega : i < out.length), List.take_succ_eq_append_getElem hi, h4, List.set_append_right _ _ (by simp; omega)]
      simp [Nat.min_eq_left h2]
    · have : i = a.length := by omega
      subst this
      rw [hE self out h3]
      rw [List.take_of_length_le (by omega), List.take_of_length_le (by omega)] at h4
      rw [h4]
/-- A loop that goes through a row, and is left at the first place where it is told so. -/
theorem allLoop {α B : Type} (a : List α) (hl : a.length < 18446744073709551616) {F : (Int → Option (Unit ⊕ B)) → Int → Option (Unit ⊕ B)} (p : Nat → Bool) (b : B)
    (hF : ∀ self (i : Nat) y, a[i]? = some y → F self (i : Int) = if p i then self ((i + 1 : Nat) : Int) else some (.inr b))
    (hE : ∀ self, F self (a.length : Int) = some (.inl ())) : loopT BIG F 0 = some (if ∀ i, i < a.length → p i = true then .inl () else .inr b) := by
  have hh := loop_rel (F := F) (fun x => ∃ i : Nat, x = i ∧ i ≤ a.length) (fun x => a.length - x.toNat) (fun x r => ((∀ i : Nat, x ≤ (i : Int) → i < a.length → p i = true) ∧ r = .inl ()) ∨ ((∃ i : Nat, i < a.length ∧ p i = false) ∧ r = .inr b)) (fun self x ⟨i, h1, h2⟩ hs => ?_) (n := BIG) (x := 0) (by simp; exact hl) ⟨0, rfl, by simp⟩
  · obtain ⟨r, hr, hq⟩ := hh
    rw [hr]
    congr 1
    rcases hq with ⟨h1, rfl⟩ | ⟨⟨i, h1, h2⟩, rfl⟩
    · rw [if_pos fun i hi => h1 i (by omega) hi]
    · rw [if_neg]
      intro h
      rw [h i h1] at h2; cases h2
  · subst h1
    by_cases hi : i < a.length
    · rw [hF self i a[i] (List.getElem?_eq_getElem hi)]
      cases hp : p i with
      | true =>
        rw [if_pos rfl]
        obtain ⟨r, hr, hq⟩ := hs _ ⟨i + 1, rfl, hi⟩ (by simp; omega)
        refine ⟨r, hr, ?_⟩
        rcases hq with ⟨h1, rfl⟩ | h1
        · refine .inl ⟨fun k hk hk' => ?_, rfl⟩
          by_cases h : k = i
          · subst h; exact hp
          · exact h1 k (by omega) hk'
        · exact .inr h1
      | false => exact ⟨_, rfl, .inr ⟨⟨i, hi, hp⟩, rfl⟩⟩
    · have : i = a.length := by omega
      subst this
      exact ⟨_, hE self, .inl ⟨fun k hk hk' => by omega, rfl⟩⟩
theorem maxLen_lt : maxLen < 18446744073709551616 := by decide
/-- Two rows that are looked at side by side. -/
theorem eqLoop {α B : Type} [DecidableEq α] (a b : List α) (hl : a.length ≤ maxLen) (hab : a.length = b.length) {F : (Int → Option (Unit ⊕ B)) → Int → Option (Unit ⊕ B)} (r : B)
    (hF : ∀ self (i : Nat) x y, a[i]? = some x → b[i]? = some y → F self (i : Int) = if x = y then self ((i + 1 : Nat) : Int) else some (.inr r))
    (hE : ∀ self, F self (a.length : Int) = some (.inl ())) : loopT BIG F 0 = some (if a = b then .inl () else .inr r) := by
  rw [allLoop a (Nat.lt_of_le_of_lt hl maxLen_lt) (fun i => decide (a[i]? = b[i]?)) r (fun self i y hy => ?_) hE]
  · congr 1
    by_cases h : a = b
    · subst h; simp
    · rw [if_neg h, if_neg]
      intro h'
      apply h
      apply List.ext_getElem? fun i => ?_
      by_cases hi : i < a.length
      · simpa using h' i hi
      · rw [List.getElem?_eq_none (by omega), List.getElem?_eq_none (by omega)]
  · have hi := (List.getElem?_eq_some_iff.1 hy).1
    have hb : b[i]? = some (b[i]'(by omega)) := List.getElem?_eq_getElem (by omega)
    rw [hF self i y _ hy hb, hy, hb]
    simp
/-- A loop that goes through a row and keeps an account. -/
theorem foldLoop {α S B : Type} (a : List α) (hl : a.length < 18446744073709551616) {F : (S × Int → Option B) → S × Int → Option B} (I : Nat → S → Prop) (st : S → α → S) (R : S → B) {s0 : S} (h0 : I 0 s0)
    (hI : ∀ i s y, a[i]? = some y → I i s → I (i + 1) (st s y)) (hF : ∀ self s (i : Nat) y, a[i]? = some y → I i s → F self (s, (i : Int)) = self (st s y, ((i + 1 : Nat) : Int)))
    (hE : ∀ self s, I a.length s → F self (s, (a.length : Int)) = some (R s)) : loopT BIG F (s0, 0) = some (R (a.foldl st s0)) := by
  have := loop_eq (F := F) (fun x => ∃ i : Nat, x.2 = i ∧ i ≤ a.length ∧ I i x.1) (fun x => a.length - x.2.toNat) (fun x => R ((a.drop x.2.toNat).foldl st x.1)) (fun self x ⟨i, h1, h2, h3⟩ hs => ?_) (n := BIG) (x := (s0, 0)) (by simp; exact hl) ⟨0, rfl, by simp, h0⟩
  · simpa using this
  · obtain ⟨s, j⟩ := x
    simp only at h1 h2 h3
    subst h1
    by_cases hi : i < a.length
    · have hy := List.getElem?_eq_getElem hi
      rw [hF self s i a[i] hy h3, hs _ ⟨i + 1, rfl, hi, hI _ _ _ hy h3⟩ (by simp; omega)]
      simp only [Int.toNat_natCast]
      rw [List.drop_eq_getElem_cons hi, List.foldl_cons]
    · have : i = a.length := by omega
      subst this
      rw [hE self s h3]
      simp
/-- A row bears marks that go from a number to a number. -/
def HdL {α : Type} (hd : Int → α → Int → Prop) : Int → List α → Int → Prop
  | k, [], k' => k' = k
  | k, z :: t, k' => ∃ k1, hd k z k1 ∧ HdL hd k1 t k'
theorem HdL.snoc {α : Type} {hd : Int → α → Int → Prop} : ∀ {t : List α} {k k1 k2 : Int} {z : α}, HdL hd k t k1 → hd k1 z k2 → HdL hd k (t ++ [z]) k2
  | [], _, _, _, _, h, h' => by cases h; exact ⟨_, h', rfl⟩
  | _ :: _, _, _, _, _, ⟨k3, h1, h2⟩, h' => ⟨k3, h1, h2.snoc h'⟩
/-- A loop that marks each of a row. -/
theorem mkLoop {α : Type} (hd : Int → α → Int → Prop) (C : Int) (hC : 0 ≤ C) (a : List α) (k0 : Int) (hl : a.length < 18446744073709551616)
    {F : (List α × Int × Int → Option (List α × Int)) → List α × Int × Int → Option (List α × Int)}
    (hF : ∀ self out (i : Nat) (k : Int) y, i < a.length → out.length = a.length → out[i]? = some y → a[i]? = some y → k0 ≤ k → k ≤ k0 + C * i →
      ∃ z k', hd k z k' ∧ k ≤ k' ∧ k' ≤ k + C ∧ F self (out, k, (i : Int)) = self (out.set i z, k', ((i + 1 : Nat) : Int)))
    (hE : ∀ self out k, out.length = a.length → F self (out, k, (a.length : Int)) = some (out, k)) :
    ∃ t k', loopT BIG F (a, k0, 0) = some (t, k') ∧ HdL hd k0 t k' ∧ t.length = a.length ∧ k0 ≤ k' ∧ k' ≤ k0 + C * a.length := by
  have := loop_rel (F := F) (fun x => ∃ (i : Nat) (t : List α), x.2.2 = i ∧ i ≤ a.length ∧ t.length = i ∧ x.1 = t ++ a.drop i ∧ HdL hd k0 t x.2.1 ∧ k0 ≤ x.2.1 ∧ x.2.1 ≤ k0 + C * i) (fun x => a.length - x.2.2.toNat)
    (fun _ r => HdL hd k0 r.1 r.2 ∧ r.1.length = a.length ∧ k0 ≤ r.2 ∧ r.2 ≤ k0 + C * a.length) (fun self x ⟨i, t, h1, h2, h3, h4, h5, h6, h7⟩ hs => ?_) (n := BIG) (x := (a, k0, 0)) (by simp; exact hl)
    ⟨0, [], rfl, by simp, rfl, by simp, rfl, Int.le_refl _, by simp⟩
  · obtain ⟨⟨t, k'⟩, h1, h2⟩ := this
    exact ⟨t, k', h1, h2⟩
  · obtain ⟨out, k, j⟩ := x
    simp only at h1 h4 h5 h6 h7
    subst h1 h3
    have hlen : out.length = a.length := by rw [h4]; simp; omega
    by_cases hi : t.length < a.length
    · have hy := List.getElem?_eq_getElem hi
      have ho : out[t.length]? = a[t.length]? := by rw [h4, List.getElem?_append_right (Nat.le_refl _)]; simp
      obtain ⟨z, k', g1, g2, g3, g4⟩ := hF self out t.length k _ hi hlen (by rw [ho, hy]) hy h6 h7
      rw [g4]
      have e : out.set t.length z = (t ++ [z]) ++ a.drop (t.length + 1) := by
        rw [h4, List.set_append_right _ _ (Nat.le_refl _), Nat.sub_self, List.drop_eq_getElem_cons hi, List.set_cons_zero, List.append_assoc]
        rfl
      have hm : C * ((t.length + 1 : Nat) : Int) = C * (t.length : Int) + C := by rw [Int.natCast_add, Int.mul_add]; simp
      exact hs _ ⟨t.length + 1, t ++ [z], rfl, hi, by simp, e, h5.snoc g1, by simp only; omega, by simp only; omega⟩ (by simp only [Int.toNat_natCast]; omega)
    · have hi' : t.length = a.length := by omega
      rw [hi', hE self out k hlen]
      rw [hi', List.drop_length, List.append_nil] at h4
      subst h4
      exact ⟨_, rfl, h5, hi', h6, by rw [← hi']; exact h7⟩
/-- A loop that holds a row against its marks. -/
theorem hdLoop {α B : Type} (hd : Int → α → Int → Prop) (a : List α) (k0 k9 : Int) (hl : a.length < 18446744073709551616) (h : HdL hd k0 a k9)
    {F : (Int × Int → Option (Int ⊕ B)) → Int × Int → Option (Int ⊕ B)}
    (hF : ∀ self (i : Nat) (k k' : Int) z, a[i]? = some z → hd k z k' → F self (k, (i : Int)) = self (k', ((i + 1 : Nat) : Int)))
    (hE : ∀ self k, F self (k, (a.length : Int)) = some (.inl k)) : loopT BIG F (k0, 0) = some (.inl k9) := by
  have := loop_eq (F := F) (fun x => ∃ i : Nat, x.2 = i ∧ i ≤ a.length ∧ HdL hd x.1 (a.drop i) k9) (fun x => a.length - x.2.toNat) (fun _ => .inl k9) (fun self x ⟨i, h1, h2, h3⟩ hs => ?_) (n := BIG) (x := (k0, 0)) (by simp; exact hl) ⟨0, rfl, by simp, by simpa using h⟩
  · exact this
  · obtain ⟨k, j⟩ := x
    simp only at h1 h3
    subst h1
    by_cases hi : i < a.length
    · rw [List.drop_eq_getElem_cons hi] at h3
      obtain ⟨k1, g1, g2⟩ := h3
      rw [hF self i k k1 _ (List.getElem?_eq_getElem hi) g1]
      exact hs _ ⟨i + 1, rfl, hi, g2⟩ (by simp; omega)
    · have : i = a.length := by omega
      subst this
      rw [List.drop_length] at h3
      cases h3
      exact hE self _
/-- A loop that takes from what is left. -/
theorem szLoop {α B : Type} (a : List α) (z : α → Nat) (b : B) (l0 : Int) (h0 : 0 ≤ l0) (h0' : l0 ≤ 1048576) (hl : a.length < 18446744073709551616) {F : (Int × Int → Option (Int ⊕ B)) → Int × Int → Option (Int ⊕ B)}
    (hF : ∀ self (i : Nat) (l : Int) y, a[i]? = some y → 0 ≤ l → l ≤ 1048576 → F self (l, (i : Int)) = if (z y : Int) ≤ l then self (l - z y, ((i + 1 : Nat) : Int)) else some (.inr b))
    (hE : ∀ self l, F self (l, (a.length : Int)) = some (.inl l)) :
    loopT BIG F (l0, 0) = some (if ((a.map z).sum : Int) ≤ l0 then .inl (l0 - ((a.map z).sum : Nat)) else .inr b) := by
  have := loop_eq (F := F) (fun x => ∃ i : Nat, x.2 = i ∧ i ≤ a.length ∧ 0 ≤ x.1 ∧ x.1 ≤ 1048576) (fun x => a.length - x.2.toNat) (fun x => if (((a.drop x.2.toNat).map z).sum : Int) ≤ x.1 then .inl (x.1 - (((a.drop x.2.toNat).map z).sum : Nat)) else .inr b)
    (fun self x ⟨i, h1, h2, h3, h4⟩ hs => ?_) (n := BIG) (x := (l0, 0)) (by simp; exact hl) ⟨0, rfl, by simp, h0, h0'⟩
  · simpa using this
  · obtain ⟨l, j⟩ := x
    simp only at h1 h3 h4
    subst h1
    simp only [Int.toNat_natCast]
    by_cases hi : i < a.length
    · have hy := List.getElem?_eq_getElem hi
      rw [hF self i l _ hy h3 h4, List.drop_eq_getElem_cons hi, List.map_cons, List.sum_cons]
      by_cases hz : (z a[i] : Int) ≤ l
      · rw [if_pos hz, hs _ ⟨i + 1, rfl, hi, by simp only; omega, by simp only; omega⟩ (by simp only [Int.toNat_natCast]; omega)]
        simp only [Int.toNat_natCast]
        by_cases hq : (((a.drop (i + 1)).map z).sum : Int) ≤ l - z a[i]
        · rw [if_pos hq, if_pos (by omega)]
          congr 2
          omega
        · rw [if_neg hq, if_neg (by omega)]
      · rw [if_neg hz, if_neg (by omega)]
    · have : i = a.length := by omega
      subst this
      rw [hE self l, List.drop_length]
      simp [h3]
/-- Two vertices hang together by edges. -/
inductive Con (E : List (Int × Int)) : Int → Int → Prop
  | refl (v : Int) : Con E v v
  | fwd {u v w : Int} : Con E u v → (v, w) ∈ E → Con E u w
  | bwd {u v w : Int} : Con E u v → (w, v) ∈ E → Con E u w
theorem Con.trans {E : List (Int × Int)} {u v w : Int} (h : Con E u v) (h' : Con E v w) : Con E u w := by
  induction h' with
  | refl => exact h
  | fwd _ he ih => exact .fwd ih he
  | bwd _ he ih => exact .bwd ih he
theorem Con.symm {E : List (Int × Int)} {u v : Int} (h : Con E u v) : Con E v u := by
  induction h with
  | refl => exact .refl _
  | fwd _ he ih => exact Con.trans (.bwd (.refl _) he) ih
  | bwd _ he ih => exact Con.trans (.fwd (.refl _) he) ih
theorem Con.mono {E E' : List (Int × Int)} (hE : ∀ e, e ∈ E → e ∈ E') {u v : Int} (h : Con E u v) : Con E' u v := by
  induction h with
  | refl => exact .refl _
  | fwd _ he ih => exact .fwd ih (hE _ he)
  | bwd _ he ih => exact .bwd ih (hE _ he)
theorem Con.of {E : List (Int × Int)} {u v : Int} (h : (u, v) ∈ E) : Con E u v := .fwd (.refl _) h
theorem Con.nil {u v : Int} (h : Con [] u v) : u = v := by
  induction h with
  | refl => rfl
  | fwd _ he _ => cases he
  | bwd _ he _ => cases he
theorem Con.snoc {E : List (Int × Int)} {a b u v : Int} : Con (E ++ [(a, b)]) u v ↔ Con E u v ∨ (Con E u a ∧ Con E b v) ∨ (Con E u b ∧ Con E a v) := by
  constructor
  · intro h
    induction h with
    | refl => exact .inl (.refl _)
    | fwd _ he ih =>
      rcases List.mem_append.1 he with h1 | h1
      · rcases ih with h | ⟨h, h'⟩ | ⟨h, h'⟩
        · exact .inl (.fwd h h1)
        · exact .inr (.inl ⟨h, .fwd h' h1⟩)
        · exact .inr (.inr ⟨h, .fwd h' h1⟩)
      · cases List.mem_singleton.1 h1
        rcases ih with h | ⟨h, h'⟩ | ⟨h, h'⟩
        · exact .inr (.inl ⟨h, .refl _⟩)
        · exact .inr (.inl ⟨h, .refl _⟩)
        · exact .inl h
    | bwd _ he ih =>
      rcases List.mem_append.1 he with h1 | h1
      · rcases ih with h | ⟨h, h'⟩ | ⟨h, h'⟩
        · exact .inl (.bwd h h1)
        · exact .inr (.inl ⟨h, .bwd h' h1⟩)
        · exact .inr (.inr ⟨h, .bwd h' h1⟩)
      · cases List.mem_singleton.1 h1
        rcases ih with h | ⟨h, h'⟩ | ⟨h, h'⟩
        · exact .inr (.inr ⟨h, .refl _⟩)
        · exact .inl h
        · exact .inr (.inr ⟨h, .refl _⟩)
  · have hm : ∀ {x y : Int}, Con E x y → Con (E ++ [(a, b)]) x y := fun h => h.mono fun e he => List.mem_append_left _ he
    have hab : Con (E ++ [(a, b)]) a b := .of (List.mem_append_right _ (List.mem_singleton.2 rfl))
    rintro (h | ⟨h, h'⟩ | ⟨h, h'⟩)
    · exact hm h
    · exact (hm h).trans (hab.trans (hm h'))
    · exact (hm h).trans (hab.symm.trans (hm h'))
/-- Edges of so many vertices. -/
def EIn (n : Nat) (E : List (Int × Int)) : Prop := ∀ e, e ∈ E → 0 ≤ e.1 ∧ e.1 < n ∧ 0 ≤ e.2 ∧ e.2 < n
theorem Con.range {n : Nat} {E : List (Int × Int)} (hE : EIn n E) {u v : Int} (h : Con E u v) (hu : 0 ≤ u ∧ u < n) : 0 ≤ v ∧ v < n := by
  induction h with
  | refl => exact hu
  | fwd _ he _ => exact ⟨(hE _ he).2.2.1, (hE _ he).2.2.2⟩
  | bwd _ he _ => exact ⟨(hE _ he).1, (hE _ he).2.1⟩
/-- Labels: to each vertex the least one that it hangs together with. -/
def Lab (n : Nat) (E : List (Int × Int)) (l : List Int) : Prop :=
  l.length = n ∧ ∀ (v : Nat) (x : Int), l[v]? = some x → Con E v x ∧ 0 ≤ x ∧ ∀ u : Int, 0 ≤ u → Con E v u → x ≤ u
theorem Lab.le {n : Nat} {E : List (Int × Int)} {l : List Int} (h : Lab n E l) {v : Nat} {x : Int} (hx : l[v]? = some x) : x ≤ v :=
  (h.2 v x hx).2.2 v (Int.natCast_nonneg v) (.refl _)
theorem Lab.lt {n : Nat} {E : List (Int × Int)} {l : List Int} (h : Lab n E l) {v : Nat} {x : Int} (hx : l[v]? = some x) : 0 ≤ x ∧ x < n := by
  have h1 := h.le hx
  have h2 := (List.getElem?_eq_some_iff.1 hx).1
  have h3 := (h.2 v x hx).2.1
  have h4 := h.1
  omega
theorem Lab.iff {n : Nat} {E : List (Int × Int)} {l : List Int} (h : Lab n E l) {u v : Nat} {x y : Int} (hx : l[u]? = some x) (hy : l[v]? = some y) : x = y ↔ Con E u v := by
  have h1 := h.2 u x hx
  have h2 := h.2 v y hy
  constructor
  · intro e
    subst e
    exact h1.1.trans h2.1.symm
  · intro c
    have a := h1.2.2 y h2.2.1 (c.trans h2.1)
    have b := h2.2.2 x h1.2.1 (c.symm.trans h1.1)
    omega
/-- A label is its own label. -/
theorem Lab.self {n : Nat} {E : List (Int × Int)} {l : List Int} (h : Lab n E l) {v : Nat} {x : Int} (hx : l[v]? = some x) : l[x.toNat]? = some x := by
  have h1 := h.lt hx
  have hi : x.toNat < l.length := by rw [h.1]; omega
  rw [List.getElem?_eq_getElem hi]
  have h2 := h.2 v x hx
  have hc : Con E (x.toNat : Int) v := by rw [Int.toNat_of_nonneg h1.1]; exact h2.1.symm
  rw [(h.iff (List.getElem?_eq_getElem hi) hx).2 hc]
/-- Labels without edges. -/
def lab0 (n : Nat) : List Int := (List.range n).map fun (i : Nat) => (i : Int)
theorem lab0_get {n v : Nat} {x : Int} (h : (lab0 n)[v]? = some x) : v < n ∧ x = v := by
  have hi := (List.getElem?_eq_some_iff.1 h).1
  simp only [lab0, List.length_map, List.length_range] at hi
  simp only [lab0, List.getElem?_map, List.getElem?_range hi, Option.map_some, Option.some.injEq] at h
  exact ⟨hi, h.symm⟩
theorem lab0_len (n : Nat) : (lab0 n).length = n := by simp [lab0]
theorem Lab.zero (n : Nat) : Lab n [] (lab0 n) := by
  refine ⟨lab0_len n, fun v x h => ?_⟩
  obtain ⟨_, rfl⟩ := lab0_get h
  exact ⟨.refl _, Int.natCast_nonneg v, fun u _ h => by rw [h.nil]; exact Int.le_refl _⟩
section
variable {n : Nat} {E : List (Int × Int)} {L : List Int}
/-- On the way down to the labels. -/
def Dn (n : Nat) (E : List (Int × Int)) (l : List Int) : Prop := l.length = n ∧ ∀ (v : Nat) (x : Int), l[v]? = some x → Con E v x ∧ 0 ≤ x
theorem Dn.set {l : List Int} (h : Dn n E l) {v : Nat} {x : Int} (hc : Con E v x) (h0 : 0 ≤ x) : Dn n E (l.set v x) := by
  refine ⟨by simp [h.1], fun u y hu => ?_⟩
  rw [List.getElem?_set] at hu
  split at hu
  · subst v
    split at hu
    · cases hu; exact ⟨hc, h0⟩
    · cases hu
  · exact h.2 u y hu
end
theorem h_sl01In (a b c : Int) : g_sl01In (a, b, c) = some (decide (b ≤ a) && decide (a ≤ c), ()) := by
  show f_sl01In BIG _ = _
  rw [e_sl01In]
  cases decide (b ≤ a) <;> rfl
theorem h_iin (a b c : Int) : g_iin (a, b, c) = some (decide (b ≤ a) && decide (a ≤ c), ()) := by
  show f_iin BIG _ = _
  rw [e_iin]
  cases decide (b ≤ a) <;> rfl
abbrev Ed := Int × Int
def inB (a b c : Int) : Bool := decide (b ≤ a) && decide (a ≤ c)
theorem h_sl01In' (a b c : Int) : g_sl01In (a, b, c) = some (inB a b c, ()) := h_sl01In a b c
theorem h_iin' (a b c : Int) : g_iin (a, b, c) = some (inB a b c, ()) := h_iin a b c
theorem inB_t {a b c : Int} : inB a b c = true ↔ b ≤ a ∧ a ≤ c := by simp [inB]
def edB (n : Int) (e : Ed) : Bool := inB n 1 12 && (inB e.1 0 (n - 1) && (inB e.2 0 (n - 1) && decide (e.1 < e.2)))
theorem h_iEdgeOk (n : Int) (e : Ed) : g_iEdgeOk (n, e) = some (edB n e, ()) := by
  show f_iEdgeOk BIG _ = _
  rw [e_iEdgeOk, h_iin', Option.bind_some]
  unfold edB
  cases h : inB n 1 12 with
  | false => rfl
  | true =>
    have := inB_t.1 h
    rw [wr (by omega) (by omega)]
    simp only [h_iin', Option.bind_some, cond_true, Bool.true_and]
    cases inB e.1 0 (n - 1) <;> cases inB e.2 0 (n - 1) <;> rfl
theorem h_sEdgeOk (n : Int) (e : Ed) : g_sEdgeOk (n, e) = some (edB n e, ()) := by
  show f_sEdgeOk BIG _ = _
  rw [e_sEdgeOk, h_sl01In', Option.bind_some]
  unfold edB
  cases h : inB n 1 12 with
  | false => rfl
  | true =>
    have := inB_t.1 h
    rw [wr (by omega) (by omega)]
    simp only [h_sl01In', Option.bind_some, cond_true, Bool.true_and]
    cases inB e.1 0 (n - 1) <;> cases inB e.2 0 (n - 1) <;> rfl
def lsB (x y : Ed) : Bool := decide (x.1 < y.1) || (decide (x.1 = y.1) && decide (x.2 < y.2))
theorem h_iahead (x y : Ed) : g_iahead (x, y) = some (lsB x y, ()) := by
  show f_iahead BIG _ = _
  rw [e_iahead]
  unfold lsB
  cases decide (x.1 < y.1) <;> cases decide (x.1 = y.1) <;> rfl
theorem h_sl05Less (x y : Ed) : g_sl05Less (x, y) = some (lsB x y, ()) := by
  show f_sl05Less BIG _ = _
  rw [e_sl05Less]
  unfold lsB
  cases decide (x.1 < y.1) <;> cases decide (x.1 = y.1) <;> rfl
def eP (n : Int) (es : List Ed) (i : Nat) : Bool := match es[i]? with
  | some y => edB n y && (match i with
    | 0 => true
    | j + 1 => match es[j]? with
      | some x => lsB x y
      | none => false)
  | none => false
theorem eP_0 {n : Int} {es : List Ed} {y : Ed} (h : es[0]? = some y) : eP n es 0 = edB n y := by
  unfold eP; rw [h]; simp
theorem eP_s {n : Int} {es : List Ed} {x y : Ed} {j : Nat} (h : es[j + 1]? = some y) (h' : es[j]? = some x) : eP n es (j + 1) = (edB n y && lsB x y) := by
  unfold eP; rw [h]; simp only [h']
def eOk (n : Int) (es : List Ed) : Bool := if ∀ i, i < es.length → eP n es i = true then decide ((es.length : Int) ≤ 66) else false
theorem eOk_len {n : Int} {es : List Ed} (h : eOk n es = true) : es.length ≤ 66 := by
  unfold eOk at h
  split at h
  · rw [decide_eq_true_eq] at h; omega
  · cases h
theorem h_iedgesOk (n : Int) (es : List Ed) (hl : es.length ≤ 1048576) : g_iedgesOk (n, es) = some (eOk n es, ()) := by
  have hm : maxLen = 9223372036854775807 := by decide
  show f_iedgesOk BIG _ = _
  rw [e_iedgesOk, allLoop es (by omega) (eP n es) false]
  · unfold eOk
    split <;> rfl
  · intro self i y hy
    have hi := (List.getElem?_eq_some_iff.1 hy).1
    simp only [show ((i : Int) < (es.length : Int)) from by omega, decide_true, cond_true]
    rw [bnd_nat hi, hy, Option.bind_some, h_iEdgeOk, wr1 (by omega)]
    cases i with
    | zero =>
      rw [eP_0 hy]
      cases edB n y <;> simp
    | succ j =>
      have hj : es[j]? = some (es[j]'(by omega)) := List.getElem?_eq_getElem (by omega)
      rw [eP_s hy hj, show (((j + 1 : Nat) : Int) - 1) = (j : Int) from by omega, wr (n := (j : Int)) (by omega) (by omega)]
      cases hb : edB n y with
      | false => simp
      | true =>
        simp only [Option.bind_some, Bool.not_true, cond_false, show (0 : Int) < ((j + 1 : Nat) : Int) from by omega, decide_true, cond_true, Bool.true_and]
        rw [bnd_nat (by omega), hj]
        simp only [Option.bind_some]
        simp only [Option.bind_some, h_iahead]
        cases lsB _ y <;> rfl
  · intro self
    simp
theorem h_sl05Edges (n : Int) (es : List Ed) (hl : es.length ≤ 1048576) : g_sl05Edges (n, es) = some (eOk n es, ()) := by
  have hm : maxLen = 9223372036854775807 := by decide
  show f_sl05Edges BIG _ = _
  rw [e_sl05Edges, allLoop es (by omega) (eP n es) false]
  · unfold eOk
    split <;> rfl
  · intro self i y hy
    have hi := (List.getElem?_eq_some_iff.1 hy).1
    simp only [show ((i : Int) < (es.length : Int)) from by omega, decide_true, cond_true]
    rw [bnd_nat hi, hy, Option.bind_some, h_sEdgeOk, wr1 (by omega)]
    cases i with
    | zero =>
      rw [eP_0 hy]
      cases edB n y <;> simp
    | succ j =>
      have hj : es[j]? = some (es[j]'(by omega)) := List.getElem?_eq_getElem (by omega)
      rw [eP_s hy hj, show (((j + 1 : Nat) : Int) - 1) = (j : Int) from by omega, wr (n := (j : Int)) (by omega) (by omega)]
      cases hb : edB n y with
      | false => simp
      | true =>
        simp only [Option.bind_some, Bool.not_true, cond_false, show (0 : Int) < ((j + 1 : Nat) : Int) from by omega, decide_true, cond_true, Bool.true_and]
        rw [bnd_nat (by omega), hj]
        simp only [Option.bind_some]
        rw [bnd_nat hi, hy]
        simp only [Option.bind_some, h_sl05Less]
        cases lsB _ y <;> rfl
  · intro self
    simp
abbrev Or' := Int × Int × List (Int × Int) × Int
def ordB (n : Int) (o : Or') : Bool := inB n 1 12 && (inB o.1 1 100000 && (inB o.2.1 1 4 && (eOk n o.2.2.1 && (if o.2.1 = 3 then decide (o.2.2.1.length = 0) && inB o.2.2.2 0 (n - 1) else if o.2.1 = 4 then decide (0 < o.2.2.1.length) && decide (o.2.2.2 = 0) else decide (o.2.2.1.length = 1) && decide (o.2.2.2 = 0)))))
theorem h_sOrderOk (n : Int) (o : Or') (hl : o.2.2.1.length ≤ 1048576) : g_sOrderOk (n, o) = some (ordB n o, ()) := by
  show f_sOrderOk BIG _ = _
  rw [e_sOrderOk]
  simp only [h_sl01In', h_sl05Edges n _ hl, Option.bind_some]
  unfold ordB
  cases h : inB n 1 12 with
  | false => rfl
  | true =>
    have := inB_t.1 h
    rw [wr (by omega) (by omega)]
    cases h1 : inB o.1 1 100000 with
    | false => rfl
    | true =>
      cases h2 : inB o.2.1 1 4 with
      | false => rfl
      | true =>
        cases h3 : eOk n o.2.2.1 with
        | false => rfl
        | true =>
          simp only [Bool.not_true, cond_false, Option.bind_some, Bool.true_and]
          by_cases k3 : o.2.1 = 3
          · rw [if_pos k3, decide_eq_true k3, cond_true]
            by_cases hz : o.2.2.1.length = 0
            · rw [decide_eq_true hz, decide_eq_true (by omega)]; rfl
            · rw [decide_eq_false hz, decide_eq_false (by omega)]; rfl
          · rw [if_neg k3, decide_eq_false k3, cond_false]
            by_cases k4 : o.2.1 = 4
            · rw [if_pos k4, decide_eq_true k4, cond_true]
              by_cases hz : 0 < o.2.2.1.length
              · rw [decide_eq_true hz, decide_eq_true (by omega)]; rfl
              · rw [decide_eq_false hz, decide_eq_false (by omega)]; rfl
            · rw [if_neg k4, decide_eq_false k4, cond_false]
              by_cases hz : o.2.2.1.length = 1
              · rw [decide_eq_true hz, decide_eq_true (by omega)]; rfl
              · rw [decide_eq_false hz, decide_eq_false (by omega)]; rfl
theorem h_iOrderOk (n : Int) (o : Or') (hl : o.2.2.1.length ≤ 1048576) : g_iOrderOk (n, o) = some (ordB n o, ()) := by
  show f_iOrderOk BIG _ = _
  rw [e_iOrderOk]
  simp only [h_iin', h_iedgesOk n _ hl, Option.bind_some]
  unfold ordB
  cases h : inB n 1 12 with
  | false => rfl
  | true =>
    have := inB_t.1 h
    rw [wr (by omega) (by omega)]
    cases h1 : inB o.1 1 100000 with
    | false => rfl
    | true =>
      cases h3 : eOk n o.2.2.1 with
      | false => simp
      | true =>
        simp only [Bool.not_true, cond_false, Option.bind_some, Bool.true_and]
        by_cases k3 : o.2.1 = 3
        · have h2 : inB o.2.1 1 4 = true := inB_t.2 (by omega)
          rw [h2, if_pos k3, decide_eq_true k3]
          rw [decide_eq_false (by omega : ¬ o.2.1 = 1), decide_eq_false (by omega : ¬ o.2.1 = 2)]
          by_cases hz : o.2.2.1.length = 0
          · rw [decide_eq_true hz, decide_eq_true (show (o.2.2.1.length : Int) = 0 from by omega)]; by_cases hv : o.2.2.2 = 0 <;> simp [hv]
          · rw [decide_eq_false hz, decide_eq_false (show ¬ (o.2.2.1.length : Int) = 0 from by omega)]; by_cases hv : o.2.2.2 = 0 <;> simp [hv]
        · rw [if_neg k3, decide_eq_false k3]
          by_cases hv : o.2.2.2 = 0
          · simp only [hv, decide_true, Bool.not_true, cond_false, Option.bind_some, Bool.and_true]
            by_cases k4 : o.2.1 = 4
            · have h2 : inB o.2.1 1 4 = true := inB_t.2 (by omega)
              rw [h2, if_pos k4, decide_eq_true k4, decide_eq_false (by omega : ¬ o.2.1 = 1), decide_eq_false (by omega : ¬ o.2.1 = 2)]
              simp
            · rw [if_neg k4, decide_eq_false k4]
              by_cases k1 : o.2.1 = 1
              · have h2 : inB o.2.1 1 4 = true := inB_t.2 (by omega)
                rw [h2, decide_eq_true k1]
                simp
                omega
              · by_cases k2 : o.2.1 = 2
                · have h2 : inB o.2.1 1 4 = true := inB_t.2 (by omega)
                  rw [h2, decide_eq_false k1, decide_eq_true k2]
                  simp
                  omega
                · have h2 : inB o.2.1 1 4 = false := by
                    cases hh : inB o.2.1 1 4 with
                    | false => rfl
                    | true => have := inB_t.1 hh; omega
                  rw [h2, decide_eq_false k1, decide_eq_false k2]
                  rfl
          · simp [hv]
def lbP (l : List Int) (i : Nat) : Bool := match l[i]? with
  | some y => inB y 0 i && (match l[y.toNat]? with
    | some z => decide (z = y)
    | none => false)
  | none => false
theorem lbP_eq {l : List Int} {i : Nat} {y z : Int} (h : l[i]? = some y) (h' : l[y.toNat]? = some z) : lbP l i = (inB y 0 i && decide (z = y)) := by
  unfold lbP; rw [h]; simp only [h']
theorem lbP_f {l : List Int} {i : Nat} {y : Int} (h : l[i]? = some y) (h' : inB y 0 i = false) : lbP l i = false := by
  unfold lbP; rw [h]; simp only [h', Bool.false_and]
def lbOk (n : Int) (l : List Int) : Bool := if (l.length : Int) = n then (if ∀ i, i < l.length → lbP l i = true then true else false) else false
theorem h_ilabelsOk (n : Int) (l : List Int) (hl : l.length ≤ 1048576) : g_ilabelsOk (n, l) = some (lbOk n l, ()) := by
  have hm : maxLen = 9223372036854775807 := by decide
  show f_ilabelsOk BIG _ = _
  rw [e_ilabelsOk]
  unfold lbOk
  by_cases hn : (l.length : Int) = n
  · rw [if_pos hn, decide_eq_true hn, Bool.not_true, cond_false, allLoop l (by omega) (lbP l) false]
    · split <;> rfl
    · intro self i y hy
      have hi := (List.getElem?_eq_some_iff.1 hy).1
      simp only [show ((i : Int) < (l.length : Int)) from by omega, decide_true, cond_true]
      rw [bnd_nat hi, hy, Option.bind_some, h_iin', wr1 (by omega)]
      cases hb : inB y 0 (i : Int) with
      | false => rw [lbP_f hy hb]; simp
      | true =>
        have := inB_t.1 hb
        have hz : l[y.toNat]? = some (l[y.toNat]'(by omega)) := List.getElem?_eq_getElem (by omega)
        rw [lbP_eq hy hz, hb]
        simp only [Option.bind_some, Bool.not_true, cond_false, Bool.true_and]
        rw [bnd_ok (by omega) (by omega), hz]
        simp only [Option.bind_some]
        by_cases hd : l[y.toNat]'(by omega) = y <;> simp [hd]
    · intro self
      simp
  · rw [if_neg hn, decide_eq_false hn]; rfl
theorem h_sl09Labels (n : Int) (l : List Int) (hl : l.length ≤ 1048576) : g_sl09Labels (n, l) = some (lbOk n l, ()) := by
  have hm : maxLen = 9223372036854775807 := by decide
  show f_sl09Labels BIG _ = _
  rw [e_sl09Labels]
  unfold lbOk
  by_cases hn : (l.length : Int) = n
  · rw [if_pos hn, decide_eq_true hn, Bool.not_true, cond_false]
    subst hn
    rw [allLoop l (by omega) (lbP l) false]
    · split <;> rfl
    · intro self i y hy
      have hi := (List.getElem?_eq_some_iff.1 hy).1
      simp only [show ((i : Int) < (l.length : Int)) from by omega, decide_true, cond_true]
      simp only [bnd_nat hi, hy, Option.bind_some, h_sl01In', wr1 (show i < maxLen from by omega)]
      cases hb : inB y 0 (i : Int) with
      | false => rw [lbP_f hy hb]; simp
      | true =>
        have := inB_t.1 hb
        have hz : l[y.toNat]? = some (l[y.toNat]'(by omega)) := List.getElem?_eq_getElem (by omega)
        rw [lbP_eq hy hz, hb]
        simp only [Option.bind_some, Bool.not_true, cond_false, Bool.true_and]
        rw [bnd_ok (by omega) (by omega), hz]
        simp only [Option.bind_some]
        by_cases hd : l[y.toNat]'(by omega) = y <;> simp [hd]
    · intro self
      simp
  · rw [if_neg hn, decide_eq_false hn]; rfl
abbrev An := Int × Bool × List (Int × Int) × List Int
def ansB (n : Int) (o : An) : Bool := inB n 1 12 && (inB o.1 1 100000 && (eOk n o.2.2.1 && lbOk n o.2.2.2))
theorem h_iAnswerOk (n : Int) (o : An) (hl : o.2.2.1.length ≤ 1048576) (hl' : o.2.2.2.length ≤ 1048576) : g_iAnswerOk (n, o) = some (ansB n o, ()) := by
  show f_iAnswerOk BIG _ = _
  rw [e_iAnswerOk]
  simp only [h_iin', h_iedgesOk n _ hl, h_ilabelsOk n _ hl', Option.bind_some]
  unfold ansB
  cases inB n 1 12 <;> cases inB o.1 1 100000 <;> cases eOk n o.2.2.1 <;> rfl
theorem h_sAnswerOk (n : Int) (o : An) (hl : o.2.2.1.length ≤ 1048576) (hl' : o.2.2.2.length ≤ 1048576) : g_sAnswerOk (n, o) = some (ansB n o, ()) := by
  show f_sAnswerOk BIG _ = _
  rw [e_sAnswerOk]
  simp only [h_sl01In', h_sl05Edges n _ hl, h_sl09Labels n _ hl', Option.bind_some]
  unfold ansB
  cases inB n 1 12 <;> cases inB o.1 1 100000 <;> cases eOk n o.2.2.1 <;> rfl
/-- A walk that may fail. -/
def fM {S α : Type} (st : S → α → Option S) : S → List α → Option S
  | s, [] => some s
  | s, y :: l => (st s y).bind fun s' => fM st s' l
theorem neg_f {c : Int} (h : 1 ≤ c) : decide (c < 0) = false := decide_eq_false (by omega)
/-- A loop through a row that keeps an account, in whatever form. -/
theorem foldG {α S X B : Type} (a : List α) (hl : a.length < 18446744073709551616) {F : (X → Option B) → X → Option B} (mk : S → Int → X) (I : Nat → S → Prop) (st : S → α → S) (R : S → B) {s0 : S} (h0 : I 0 s0)
    (hI : ∀ i s y, a[i]? = some y → I i s → I (i + 1) (st s y)) (hF : ∀ self s (i : Nat) y, a[i]? = some y → I i s → F self (mk s (i : Int)) = self (mk (st s y) ((i + 1 : Nat) : Int)))
    (hE : ∀ self s, I a.length s → F self (mk s (a.length : Int)) = some (R s)) : loopT BIG F (mk s0 0) = some (R (a.foldl st s0)) := by
  have key : ∀ (k n i : Nat) (s : S), a.length - i ≤ k → k < n → i ≤ a.length → I i s → it F n (mk s (i : Int)) = some (R ((a.drop i).foldl st s)) := by
    intro k
    induction k with
    | zero =>
      intro n i s hk hn hi hs
      obtain ⟨m, rfl⟩ : ∃ m, n = m + 1 := ⟨n - 1, by omega⟩
      have : i = a.length := by omega
      subst this
      show F (it F m) _ = _
      rw [hE _ _ hs]; simp
    | succ k ih =>
      intro n i s hk hn hi hs
      obtain ⟨m, rfl⟩ : ∃ m, n = m + 1 := ⟨n - 1, by omega⟩
      show F (it F m) _ = _
      by_cases hi' : i < a.length
      · have hy := List.getElem?_eq_getElem hi'
        rw [hF _ _ _ _ hy hs, ih m (i + 1) _ (by omega) (by omega) hi' (hI _ _ _ hy hs), List.drop_eq_getElem_cons hi', List.foldl_cons]
      · have : i = a.length := by omega
        subst this
        rw [hE _ _ hs]; simp
  have := key a.length BIG 0 s0 (by omega) (by simpa [BIG] using hl) (by omega) h0
  show it F BIG (mk s0 0) = _
  simpa using this
theorem exitG {α S T X B : Type} (a : List α) (hl : a.length < 18446744073709551616) {F : (X → Option (T ⊕ B)) → X → Option (T ⊕ B)} (mk : S → Int → X) (I : Nat → S → Prop) (st : S → α → Option S) (R : S → T) (b : B) {s0 : S} (h0 : I 0 s0)
    (hI : ∀ i s s' y, a[i]? = some y → I i s → st s y = some s' → I (i + 1) s') (hF : ∀ self s (i : Nat) y, a[i]? = some y → I i s → F self (mk s (i : Int)) = match st s y with | some s' => self (mk s' ((i + 1 : Nat) : Int)) | none => some (.inr b))
    (hE : ∀ self s, I a.length s → F self (mk s (a.length : Int)) = some (.inl (R s))) : loopT BIG F (mk s0 0) = some (match fM st s0 a with | some s => .inl (R s) | none => .inr b) := by
  have key : ∀ (k n i : Nat) (s : S), a.length - i ≤ k → k < n → i ≤ a.length → I i s → it F n (mk s (i : Int)) = some (match fM st s (a.drop i) with | some s => .inl (R s) | none => .inr b) := by
    intro k
    induction k with
    | zero =>
      intro n i s hk hn hi hs
      obtain ⟨m, rfl⟩ : ∃ m, n = m + 1 := ⟨n - 1, by omega⟩
      have : i = a.length := by omega
      subst this
      show F (it F m) _ = _
      rw [hE _ _ hs, List.drop_length]; rfl
    | succ k ih =>
      intro n i s hk hn hi hs
      obtain ⟨m, rfl⟩ : ∃ m, n = m + 1 := ⟨n - 1, by omega⟩
      show F (it F m) _ = _
      by_cases hi' : i < a.length
      · have hy := List.getElem?_eq_getElem hi'
        rw [hF _ _ _ _ hy hs, List.drop_eq_getElem_cons hi']
        cases hst : st s a[i] with
        | none => simp only [fM, hst, Option.bind_none]
        | some s' =>
          simp only
          rw [ih m (i + 1) _ (by omega) (by omega) hi' (hI _ _ _ _ hy hs hst)]
          simp only [fM, hst, Option.bind_some]
      · have : i = a.length := by omega
        subst this
        rw [hE _ _ hs, List.drop_length]; rfl
  have := key a.length BIG 0 s0 (by omega) (by simpa [BIG] using hl) (by omega) h0
  show it F BIG (mk s0 0) = _
  simpa using this
def BA (l : List UInt8) : ByteArray := ⟨l.toArray⟩
theorem BA_data (b : ByteArray) : BA b.data.toList = b := by cases b; rfl
theorem BA_size (l : List UInt8) : (BA l).size = l.length := by
  have h : l.toArray.size = l.length := by simp
  exact h
theorem BA_app (a b : List UInt8) : BA a ++ BA b = BA (a ++ b) := by
  apply ByteArray.ext
  simp [BA, ByteArray.data_append]
theorem BA_get (l : List UInt8) (i : Nat) : (BA l)[i]? = l[i]? := by
  by_cases h : i < l.length
  · rw [getElem?_pos (BA l) i h, List.getElem?_eq_getElem h]
    rfl
  · rw [getElem?_neg (BA l) i h, List.getElem?_eq_none (by omega)]
theorem BA_ext (l : List UInt8) (a b : Nat) : (BA l).extract a b = BA ((l.drop a).take (b - a)) := by
  apply ByteArray.ext
  simp [BA, ByteArray.data_extract]
theorem BA_loop (l : List UInt8) : ∀ (k i : Nat) (r : List UInt8), l.length - i ≤ k → ByteArray.toList.loop (BA l) i r = r.reverse ++ l.drop i := by
  intro k
  induction k with
  | zero =>
    intro i r h
    unfold ByteArray.toList.loop
    rw [if_neg (by rw [BA_size]; omega), List.drop_eq_nil_iff.2 (by omega), List.append_nil]
  | succ k ih =>
    intro i r h
    unfold ByteArray.toList.loop
    by_cases hi : i < l.length
    · rw [if_pos (by rw [BA_size]; exact hi), ih (i + 1) _ (by omega), List.drop_eq_getElem_cons hi]
      have : (BA l).get! i = l[i] := by
        show (BA l).data[i]! = _
        simp [BA, hi]
      rw [this]; simp
    · rw [if_neg (by rw [BA_size]; exact hi), List.drop_eq_nil_iff.2 (by omega), List.append_nil]
theorem BA_toList (l : List UInt8) : (BA l).toList = l := by
  unfold ByteArray.toList
  rw [BA_loop l l.length 0 [] (by omega)]; simp
theorem bytesStr_BA (ns : List Int) : bytesStr ns = BA (ns.map fun n => UInt8.ofNat n.toNat) := by
  have : ∀ (ns : List Int) (l : List UInt8), ns.foldl (fun r n => r.push (UInt8.ofNat n.toNat)) (BA l) = BA (l ++ ns.map fun n => UInt8.ofNat n.toNat) := by
    intro ns
    induction ns with
    | nil => intro l; simp
    | cons n ns ih =>
      intro l
      rw [List.foldl_cons]
      have : (BA l).push (UInt8.ofNat n.toNat) = BA (l ++ [UInt8.ofNat n.toNat]) := by
        apply ByteArray.ext
        simp [BA, ByteArray.push]
      rw [this, ih]; simp
  have := this ns []
  rw [List.nil_append] at this
  exact this
/-- A byte of a number. -/
def by8 (n : Int) : UInt8 := UInt8.ofNat (n % 256).toNat
theorem wrap_u8 (n : Int) : IntKind.wrap .u8 n = n % 256 := by
  simp [IntKind.wrap, IntKind.signed, IntKind.bits]
theorem bytes_by (ns : List Int) : bytesStr (ns.map (IntKind.wrap .u8)) = BA (ns.map by8) := by
  rw [bytesStr_BA, List.map_map]
  rfl
theorem bytes_nn {ns : List Int} (h : ∀ z, z ∈ ns → 0 ≤ z) : bytesStr ns = BA (ns.map by8) := by
  rw [bytesStr_BA]
  congr 1
  apply List.map_congr_left
  intro n hn
  have := h n hn
  unfold by8
  apply UInt8.toNat_inj.1
  simp only [UInt8.toNat_ofNat']
  omega
theorem by8_nat (n : Nat) : by8 (n : Int) = UInt8.ofNat n := by
  unfold by8
  have : ((n : Int) % 256).toNat = n % 256 := by omega
  rw [this]
  apply UInt8.toNat_inj.1
  simp [UInt8.toNat_ofNat]
theorem by8_toNat {n : Nat} (h : n < 256) : (by8 (n : Int)).toNat = n := by
  rw [by8_nat]; simp [UInt8.toNat_ofNat]; omega
theorem by8_of (b : UInt8) : by8 (b.toNat : Int) = b := by
  rw [by8_nat]; simp
def vF : Nat → Nat → List UInt8
  | 0, v => [by8 (v : Int)]
  | k + 1, v => if v ≤ 127 then [by8 (v : Int)] else by8 ((v % 128 + 128 : Nat) : Int) :: vF k (v / 128)
def vB (v : Nat) : List UInt8 := vF 9 v
theorem vF_more : ∀ (k v : Nat), v < 128 ^ (k + 1) → vF (k + 1) v = vF k v
  | 0, v, h => by
    have : v ≤ 127 := by omega
    simp [vF, this]
  | k + 1, v, h => by
    unfold vF
    split
    · rfl
    · congr 1
      apply vF_more k
      rw [Nat.div_lt_iff_lt_mul (by omega)]
      rw [Nat.pow_succ] at h
      exact h
theorem vF_len : ∀ (k v : Nat), (vF k v).length ≤ k + 1
  | 0, v => by simp [vF]
  | k + 1, v => by
    unfold vF
    split
    · simp
    · have := vF_len k (v / 128)
      simp; omega
theorem vB_small {v : Nat} (h : v < 34359738368) : vB v = vF 4 v := by
  unfold vB
  rw [vF_more 8 v (by omega), vF_more 7 v (by omega), vF_more 6 v (by omega), vF_more 5 v (by omega), vF_more 4 v (by omega)]
theorem vB_len {v : Nat} (h : v < 34359738368) : (vB v).length ≤ 5 := by rw [vB_small h]; exact vF_len 4 v
theorem vB_lo {v : Nat} (h : v ≤ 127) : vB v = [by8 (v : Int)] := by simp [vB, vF, h]
theorem vB_hi {v : Nat} (h : 127 < v) (h' : v < 34359738368) : vB v = by8 ((v % 128 + 128 : Nat) : Int) :: vB (v / 128) := by
  rw [vB_small (v := v / 128) (by omega), vB_small h']
  show (if v ≤ 127 then _ else _ :: vF 3 (v / 128)) = _
  rw [if_neg (by omega), ← vF_more 3 (v / 128) (by omega)]
theorem wrapi {n : Nat} (h : n ≤ 9223372036854775807) : IntKind.wrap .i64 (n : Int) = n := wr (by omega) (by omega)
theorem vLoop (v : Nat) (hv : v < 34359738368) {F : (List Int × Int → Option (List Int × Int)) → List Int × Int → Option (List Int × Int)}
    (hF : ∀ self (out : List Int) (x : Nat), x < 34359738368 → out.length ≤ 100 → F self (out, (x : Int)) = if 127 < x then self (out ++ [((x % 128 + 128 : Nat) : Int)], ((x / 128 : Nat) : Int)) else some (out, (x : Int))) :
    ∃ (out : List Int) (x : Nat), loopT BIG F ([], (v : Int)) = some (out, (x : Int)) ∧ out.length ≤ 10 ∧ x ≤ 127 ∧ (out ++ [(x : Int)]).map by8 = vB v ∧ ∀ z, z ∈ out → 0 ≤ z := by
  have key : ∀ (k n : Nat) (out : List Int) (x : Nat), x < 128 ^ (k + 1) → k ≤ 4 → k < n → out.length ≤ 10 - k → (∀ z, z ∈ out → 0 ≤ z) → ∃ (out' : List Int) (x' : Nat), it F n (out, (x : Int)) = some (out', (x' : Int)) ∧ out'.length ≤ 10 ∧ x' ≤ 127 ∧ (out' ++ [(x' : Int)]).map by8 = out.map by8 ++ vB x ∧ ∀ z, z ∈ out' → 0 ≤ z := by
    intro k
    induction k with
    | zero =>
      intro n out x hx hk4 hk ho hz
      obtain ⟨m, rfl⟩ : ∃ m, n = m + 1 := ⟨n - 1, by omega⟩
      refine ⟨out, x, ?_, by omega, by omega, ?_, hz⟩
      · show F (it F m) _ = _
        rw [hF _ _ _ (by omega) (by omega), if_neg (by omega)]
      · rw [vB_lo (by omega)]; simp
    | succ k ih =>
      intro n out x hx hk4 hk ho hz
      obtain ⟨m, rfl⟩ : ∃ m, n = m + 1 := ⟨n - 1, by omega⟩
      have hx5 : x < 34359738368 := Nat.lt_of_lt_of_le hx (Nat.pow_le_pow_right (by omega) (show k + 1 + 1 ≤ 5 by omega))
      by_cases h : 127 < x
      · have hx' : x / 128 < 128 ^ (k + 1) := by
          rw [Nat.div_lt_iff_lt_mul (by omega)]
          rw [Nat.pow_succ] at hx; exact hx
        obtain ⟨out', x', g1, g2, g3, g4, g5⟩ := ih m (out ++ [((x % 128 + 128 : Nat) : Int)]) (x / 128) hx' (by omega) (by omega) (by simp; omega) (fun z hm => by
          rcases List.mem_append.1 hm with hm | hm
          · exact hz z hm
          · rw [List.mem_singleton.1 hm]; omega)
        refine ⟨out', x', ?_, g2, g3, ?_, g5⟩
        · show F (it F m) _ = _
          rw [hF _ _ _ hx5 (by omega), if_pos h]
          exact g1
        · rw [g4, vB_hi h hx5]; simp
      · refine ⟨out, x, ?_, by omega, by omega, ?_, hz⟩
        · show F (it F m) _ = _
          rw [hF _ _ _ hx5 (by omega), if_neg h]
        · rw [vB_lo (by omega)]; simp
  obtain ⟨out, x, h1, h2, h3, h4, h5⟩ := key 4 BIG [] v hv (by omega) (by decide) (by simp) (fun z hz => by cases hz)
  exact ⟨out, x, h1, h2, h3, by simpa using h4, h5⟩
theorem vStep (x : Nat) (hx : x < 34359738368) : IntKind.wrap .u8 (IntKind.wrap .i64 (Int.tmod (x : Int) 128 + 128)) = ((x % 128 + 128 : Nat) : Int) ∧ IntKind.wrap .i64 (Int.tdiv (x : Int) 128) = ((x / 128 : Nat) : Int) := by
  rw [Int.tmod_eq_emod_of_nonneg (by omega), Int.tdiv_eq_ediv_of_nonneg (by omega)]
  constructor
  · rw [wr (by omega) (by omega), wrap_u8]; omega
  · rw [wr (by omega) (by omega)]; omega
theorem vStepF (self1 : List Int × Int → Option (List Int × Int)) (out : List Int) (x : Nat) (hx : x < 34359738368) (ho : out.length ≤ 100) :
    (bif decide ((127 : Int) < (x : Int)) then
     bif decide ((128 : Int) = 0) then
      none
     else bif decide (out.length + ([IntKind.wrap .u8 (IntKind.wrap .i64 ((Int.tmod (x : Int) (128 : Int)) + (128 : Int)))]).length ≤ 4294967296) then
      bif decide ((128 : Int) = 0) then
       none
      else self1 (out ++ ([IntKind.wrap .u8 (IntKind.wrap .i64 ((Int.tmod (x : Int) (128 : Int)) + (128 : Int)))]), IntKind.wrap .i64 (Int.tdiv (x : Int) (128 : Int)))
     else none
    else some (out, (x : Int))) = if 127 < x then self1 (out ++ [((x % 128 + 128 : Nat) : Int)], ((x / 128 : Nat) : Int)) else some (out, (x : Int)) := by
  obtain ⟨s1, s2⟩ := vStep x hx
  simp only [s1, s2]
  rw [decide_eq_true (show out.length + [((x % 128 + 128 : Nat) : Int)].length ≤ 4294967296 by simp; omega)]
  by_cases h : 127 < x
  · rw [decide_eq_true (by omega), if_pos h]; rfl
  · rw [decide_eq_false (by omega), if_neg h]; rfl
theorem vEnd {v x : Nat} {out : List Int} (h3 : x ≤ 127) (h4 : (out ++ [(x : Int)]).map by8 = vB v) (h5 : ∀ z, z ∈ out → 0 ≤ z) : bytesStr (out ++ [IntKind.wrap .u8 (x : Int)]) = BA (vB v) := by
  have : out ++ [IntKind.wrap .u8 (x : Int)] = out ++ [(x : Int)] := by rw [wrap_u8, Int.emod_eq_of_lt (by omega) (by omega)]
  rw [this, bytes_nn (fun z hm => by
    rcases List.mem_append.1 hm with hm | hm
    · exact h5 z hm
    · rw [List.mem_singleton.1 hm]; omega), h4]
theorem w_sl01Var (v : Nat) (hv : v < 34359738368) : g_sl01Var (v : Int) = some (BA (vB v), ()) := by
  show f_sl01Var BIG _ = _
  rw [e_sl01Var]
  obtain ⟨out, x, h1, h2, h3, h4, h5⟩ := vLoop v hv (F := fun self1 x0 =>
    bif decide ((127 : Int) < x0.2) then
     bif decide ((128 : Int) = 0) then
      none
     else bif decide (x0.1.length + ([IntKind.wrap .u8 (IntKind.wrap .i64 ((Int.tmod x0.2 (128 : Int)) + (128 : Int)))]).length ≤ 4294967296) then
      bif decide ((128 : Int) = 0) then
       none
      else self1 (x0.1 ++ ([IntKind.wrap .u8 (IntKind.wrap .i64 ((Int.tmod x0.2 (128 : Int)) + (128 : Int)))]), IntKind.wrap .i64 (Int.tdiv x0.2 (128 : Int)))
     else none
    else some (x0.1, x0.2)) (fun self out x hx ho => vStepF self out x hx ho)
  rw [h1]
  simp only [Option.bind_some]
  rw [decide_eq_true (by simp; omega), cond_true, vEnd h3 h4 h5]
theorem w_iVarText (v : Int) : g_iVarText v = some (if inB v 0 1000000000 then (BA (vB v.toNat), true) else (BA [], false), ()) := by
  show f_iVarText BIG _ = _
  rw [e_iVarText, h_iin', Option.bind_some]
  cases h : inB v 0 1000000000 with
  | false => rfl
  | true =>
    rw [inB_t] at h
    obtain ⟨v, rfl⟩ : ∃ w : Nat, v = w := ⟨v.toNat, by omega⟩
    obtain ⟨out, x, h1, h2, h3, h4, h5⟩ := vLoop v (by omega) (F := fun self1 x0 =>
      bif decide ((127 : Int) < x0.2) then
       bif decide ((128 : Int) = 0) then
        none
       else bif decide (x0.1.length + ([IntKind.wrap .u8 (IntKind.wrap .i64 ((Int.tmod x0.2 (128 : Int)) + (128 : Int)))]).length ≤ 4294967296) then
        bif decide ((128 : Int) = 0) then
         none
        else self1 (x0.1 ++ ([IntKind.wrap .u8 (IntKind.wrap .i64 ((Int.tmod x0.2 (128 : Int)) + (128 : Int)))]), IntKind.wrap .i64 (Int.tdiv x0.2 (128 : Int)))
       else none
      else some (x0.1, x0.2)) (fun self out x hx ho => vStepF self out x hx ho)
    simp only [Bool.not_true, cond_false, if_true, Int.toNat_natCast]
    rw [h1]
    simp only [Option.bind_some]
    rw [decide_eq_true (by simp; omega), cond_true, vEnd h3 h4 h5]
theorem by_1 (x : Int) : bytesStr [IntKind.wrap .u8 x] = BA [by8 x] := bytes_by [x]
theorem by_2 (x y : Int) : bytesStr [IntKind.wrap .u8 x, IntKind.wrap .u8 y] = BA [by8 x, by8 y] := bytes_by [x, y]
theorem w_sl09Byte (v : Int) : g_sl09Byte v = some (BA [by8 v], ()) := by
  show f_sl09Byte BIG _ = _
  rw [e_sl09Byte, by_1]
def flT (b : Bool) : List UInt8 := [if b then 1 else 0]
theorem w_sl09Flag (b : Bool) : g_sl09Flag b = some (BA (flT b), ()) := by
  show f_sl09Flag BIG _ = _
  rw [e_sl09Flag]; cases b <;> rfl
def e2 (e : Ed) : List UInt8 := [by8 e.1, by8 e.2]
def eT (es : List Ed) : List UInt8 := vB es.length ++ es.flatMap e2
theorem flat2_len : ∀ es : List Ed, (es.flatMap e2).length = 2 * es.length
  | [] => rfl
  | e :: es => by rw [List.flatMap_cons, List.length_append, flat2_len es]; simp [e2]; omega
theorem eT_len {es : List Ed} (h : es.length ≤ 66) : (eT es).length ≤ 200 := by
  have := vB_len (v := es.length) (by omega)
  rw [eT, List.length_append, flat2_len]; omega
theorem fold_flat {α : Type} (f : α → List UInt8) : ∀ (l : List α) (s : List UInt8), l.foldl (fun s e => s ++ f e) s = s ++ l.flatMap f
  | [], s => by simp
  | e :: l, s => by rw [List.foldl_cons, fold_flat f l, List.flatMap_cons, List.append_assoc]
theorem w_iedgesText (es : List Ed) (he : es.length ≤ 66) : g_iedgesText es = some (BA (eT es), ()) := by
  have hm : maxLen = 9223372036854775807 := by decide
  show f_iedgesText BIG _ = _
  have hv : inB (es.length : Int) 0 1000000000 = true := inB_t.2 (by omega)
  have h5 := vB_len (v := es.length) (by omega)
  rw [e_iedgesText, w_iVarText, hv, if_pos rfl, Option.bind_some, Int.toNat_natCast]
  simp only
  rw [foldG es (by omega) (fun (s : List UInt8) i => (BA s, i)) (fun i s => s.length ≤ 5 + 2 * i) (fun s e => s ++ e2 e) BA (s0 := vB es.length) (by simpa using h5) (fun i s y _ h => by simp [e2]; omega), fold_flat]
  · rfl
  · intro self s i y hy hs
    have hi := (List.getElem?_eq_some_iff.1 hy).1
    simp only [show ((i : Int) < (es.length : Int)) from by omega, decide_true, cond_true]
    rw [bnd_nat hi, hy, Option.bind_some, wr1 (by omega), by_2, BA_app, BA_size, BA_size, decide_eq_true (by simp; omega)]
    rfl
  · intro self s _
    simp
theorem w_sl09Edges (es : List Ed) (he : es.length ≤ 66) : g_sl09Edges es = some (BA (eT es), ()) := by
  have hm : maxLen = 9223372036854775807 := by decide
  show f_sl09Edges BIG _ = _
  have h5 := vB_len (v := es.length) (by omega)
  rw [e_sl09Edges, w_sl01Var _ (by omega), Option.bind_some]
  simp only
  rw [foldG es (by omega) (fun (s : List UInt8) i => (BA s, i)) (fun i s => s.length ≤ 5 + 2 * i) (fun s e => s ++ e2 e) BA (s0 := vB es.length) (by simpa using h5) (fun i s y _ h => by simp [e2]; omega), fold_flat]
  · rfl
  · intro self s i y hy hs
    have hi := (List.getElem?_eq_some_iff.1 hy).1
    simp only [show ((i : Int) < (es.length : Int)) from by omega, decide_true, cond_true]
    rw [bnd_nat hi, hy, Option.bind_some, wr1 (by omega), w_sl09Byte, Option.bind_some, BA_app, BA_size, BA_size, decide_eq_true (by simp; omega), cond_true, bnd_nat hi, hy, Option.bind_some, w_sl09Byte, Option.bind_some, BA_app, BA_size, BA_size, decide_eq_true (by simp; omega), cond_true, List.append_assoc]
    rfl
  · intro self s _
    simp
def oT (o : Or') : List UInt8 := ((vB o.1.toNat ++ [by8 o.2.1]) ++ vB o.2.2.2.toNat) ++ eT o.2.2.1
theorem ordB_in {n : Int} {o : Or'} (h : ordB n o = true) : 1 ≤ n ∧ n ≤ 12 ∧ 1 ≤ o.1 ∧ o.1 ≤ 100000 ∧ 1 ≤ o.2.1 ∧ o.2.1 ≤ 4 ∧ 0 ≤ o.2.2.2 ∧ o.2.2.2 ≤ 12 ∧ eOk n o.2.2.1 = true := by
  unfold ordB at h
  simp only [Bool.and_eq_true] at h
  obtain ⟨hn, h1, h2, h3, h4⟩ := h
  have hn := inB_t.1 hn
  have h1 := inB_t.1 h1
  have h2 := inB_t.1 h2
  have hv : 0 ≤ o.2.2.2 ∧ o.2.2.2 ≤ 12 := by
    split at h4
    · simp only [Bool.and_eq_true] at h4
      have := inB_t.1 h4.2; omega
    · split at h4 <;> simp only [Bool.and_eq_true, decide_eq_true_eq] at h4 <;> omega
  exact ⟨hn.1, hn.2, h1.1, h1.2, h2.1, h2.2, hv.1, hv.2, h3⟩
theorem oT_len {n : Int} {o : Or'} (h : ordB n o = true) : (oT o).length ≤ 300 := by
  obtain ⟨a1, a2, a3, a4, a5, a6, a7, a8, a9⟩ := ordB_in h
  have h1 := vB_len (v := o.1.toNat) (by omega)
  have h2 := vB_len (v := o.2.2.2.toNat) (by omega)
  have h3 := eT_len (eOk_len a9)
  simp only [oT, List.length_append, List.length_cons, List.length_nil]; omega
theorem w_iOrderText (n : Int) (o : Or') (hl : o.2.2.1.length ≤ 1048576) : g_iOrderText (n, o) = some (if ordB n o then (BA (oT o), true) else (BA [], false), ()) := by
  show f_iOrderText BIG _ = _
  rw [e_iOrderText, h_iOrderOk n o hl, Option.bind_some]
  cases h : ordB n o with
  | false => rfl
  | true =>
    obtain ⟨a1, a2, a3, a4, a5, a6, a7, a8, a9⟩ := ordB_in h
    have h1 := vB_len (v := o.1.toNat) (by omega)
    have h2 := vB_len (v := o.2.2.2.toNat) (by omega)
    have h3 := eT_len (eOk_len a9)
    simp only [Bool.not_true, cond_false, if_true, w_iVarText, Option.bind_some]
    rw [show inB o.1 0 1000000000 = true from inB_t.2 (by omega), show inB o.2.2.2 0 1000000000 = true from inB_t.2 (by omega), if_pos rfl, if_pos rfl, by_1, w_iedgesText _ (eOk_len a9)]
    simp only [BA_app, BA_size, Option.bind_some]
    rw [decide_eq_true (by simp; omega), cond_true, decide_eq_true (by simp; omega), cond_true, decide_eq_true (by simp; omega), cond_true]
    rfl
theorem w_sOrderText (n : Int) (o : Or') (hl : o.2.2.1.length ≤ 1048576) : g_sOrderText (n, o) = some (if ordB n o then (BA (oT o), true) else (BA [], false), ()) := by
  show f_sOrderText BIG _ = _
  rw [e_sOrderText, h_sOrderOk n o hl, Option.bind_some]
  cases h : ordB n o with
  | false => rfl
  | true =>
    obtain ⟨a1, a2, a3, a4, a5, a6, a7, a8, a9⟩ := ordB_in h
    have h1 := vB_len (v := o.1.toNat) (by omega)
    have h2 := vB_len (v := o.2.2.2.toNat) (by omega)
    have h3 := eT_len (eOk_len a9)
    have k1 := w_sl01Var o.1.toNat (by omega)
    have k2 := w_sl01Var o.2.2.2.toNat (by omega)
    rw [Int.toNat_of_nonneg (by omega)] at k1 k2
    simp only [Bool.not_true, cond_false, if_true, k1, k2, w_sl09Byte, w_sl09Edges _ (eOk_len a9), BA_app, BA_size, Option.bind_some]
    rw [decide_eq_true (by simp; omega), cond_true, decide_eq_true (by simp; omega), cond_true, decide_eq_true (by simp; omega), cond_true]
    rfl
def aT (a : An) : List UInt8 := ((vB a.1.toNat ++ flT a.2.1) ++ eT a.2.2.1) ++ a.2.2.2.map by8
theorem ansB_in {n : Int} {a : An} (h : ansB n a = true) : 1 ≤ n ∧ n ≤ 12 ∧ 1 ≤ a.1 ∧ a.1 ≤ 100000 ∧ eOk n a.2.2.1 = true ∧ (a.2.2.2.length : Int) = n ∧ lbOk n a.2.2.2 = true := by
  unfold ansB at h
  simp only [Bool.and_eq_true, inB_t] at h
  obtain ⟨hn, h1, h2, h3⟩ := h
  have h3' := h3
  unfold lbOk at h3
  split at h3
  · rename_i hl
    exact ⟨hn.1, hn.2, h1.1, h1.2, h2, hl, h3'⟩
  · cases h3
theorem aT_len {n : Int} {a : An} (h : ansB n a = true) : (aT a).length ≤ 300 := by
  obtain ⟨a1, a2, a3, a4, a5, a6, _⟩ := ansB_in h
  have h1 := vB_len (v := a.1.toNat) (by omega)
  have h3 := eT_len (eOk_len a5)
  simp only [aT, flT, List.length_append, List.length_cons, List.length_nil, List.length_map]; omega
theorem map_flat (l : List Int) : l.flatMap (fun y => [by8 y]) = l.map by8 := by
  induction l with
  | nil => rfl
  | cons y l ih => rw [List.flatMap_cons, ih]; rfl
theorem w_iAnswerText (n : Int) (a : An) (hl : a.2.2.1.length ≤ 1048576) (hl' : a.2.2.2.length ≤ 1048576) : g_iAnswerText (n, a) = some (if ansB n a then (BA (aT a), true) else (BA [], false), ()) := by
  have hm : maxLen = 9223372036854775807 := by decide
  show f_iAnswerText BIG _ = _
  rw [e_iAnswerText, h_iAnswerOk n a hl hl', Option.bind_some]
  cases h : ansB n a with
  | false => rfl
  | true =>
    obtain ⟨a1, a2, a3, a4, a5, a6, _⟩ := ansB_in h
    have h1 := vB_len (v := a.1.toNat) (by omega)
    have h3 := eT_len (eOk_len a5)
    have hf : (bif a.2.1 then some (ByteArray.mk #[1]) else some (ByteArray.mk #[0]) : Option ByteArray) = some (BA (flT a.2.1)) := by cases a.2.1 <;> rfl
    simp only [Bool.not_true, cond_false, if_true, w_iVarText, Option.bind_some]
    rw [show inB a.1 0 1000000000 = true from inB_t.2 (by omega), if_pos rfl, hf, Option.bind_some, w_iedgesText _ (eOk_len a5)]
    simp only [BA_app, BA_size, Option.bind_some]
    rw [decide_eq_true (by simp [flT]; omega), cond_true, decide_eq_true (by simp [flT]; omega), cond_true,
      foldG a.2.2.2 (by omega) (fun (s : List UInt8) i => (BA s, i)) (fun i s => s.length ≤ 300 + i) (fun s y => s ++ [by8 y]) BA (by simp [flT]; omega) (fun i s y _ h => by simp; omega), fold_flat (fun y => [by8 y]), map_flat]
    · rfl
    · intro self s i y hy hs
      have hi := (List.getElem?_eq_some_iff.1 hy).1
      simp only [show ((i : Int) < (a.2.2.2.length : Int)) from by omega, decide_true, cond_true]
      rw [bnd_nat hi, hy, Option.bind_some, wr1 (by omega), by_1, BA_app, BA_size, BA_size, decide_eq_true (by simp; omega)]
      rfl
    · intro self s _
      simp
theorem w_sAnswerText (n : Int) (a : An) (hl : a.2.2.1.length ≤ 1048576) (hl' : a.2.2.2.length ≤ 1048576) : g_sAnswerText (n, a) = some (if ansB n a then (BA (aT a), true) else (BA [], false), ()) := by
  have hm : maxLen = 9223372036854775807 := by decide
  show f_sAnswerText BIG _ = _
  rw [e_sAnswerText, h_sAnswerOk n a hl hl', Option.bind_some]
  cases h : ansB n a with
  | false => rfl
  | true =>
    obtain ⟨a1, a2, a3, a4, a5, a6, _⟩ := ansB_in h
    have h1 := vB_len (v := a.1.toNat) (by omega)
    have h3 := eT_len (eOk_len a5)
    have k1 := w_sl01Var a.1.toNat (by omega)
    rw [Int.toNat_of_nonneg (by omega)] at k1
    simp only [Bool.not_true, cond_false, if_true, k1, w_sl09Flag, w_sl09Edges _ (eOk_len a5), BA_app, BA_size, Option.bind_some]
    rw [decide_eq_true (by simp [flT]; omega), cond_true, decide_eq_true (by simp [flT]; omega), cond_true,
      foldG a.2.2.2 (by omega) (fun (s : List UInt8) i => (BA s, i)) (fun i s => s.length ≤ 300 + i) (fun s y => s ++ [by8 y]) BA (by simp [flT]; omega) (fun i s y _ h => by simp; omega), fold_flat (fun y => [by8 y]), map_flat]
    · rfl
    · intro self s i y hy hs
      have hi := (List.getElem?_eq_some_iff.1 hy).1
      simp only [show ((i : Int) < n) from by omega, decide_true, cond_true]
      rw [bnd_nat hi, hy, Option.bind_some, wr1 (by omega), w_sl09Byte, Option.bind_some, BA_app, BA_size, BA_size, decide_eq_true (by simp; omega)]
      rfl
    · intro self s _
      simp [a6]
/-- A number read off bytes, of which it takes so many at most; and how many it took. -/
def dec : Nat → List UInt8 → Option (Nat × Nat)
  | 0, _ => none
  | _ + 1, [] => none
  | k + 1, b :: l => if b.toNat < 128 then some (b.toNat, 1) else (dec k l).map fun r => (b.toNat - 128 + 128 * r.1, r.2 + 1)
theorem dec_in : ∀ {k : Nat} {l : List UInt8} {v m : Nat}, dec k l = some (v, m) → 1 ≤ m ∧ m ≤ k ∧ m ≤ l.length ∧ v < 128 ^ m
  | 0, _, _, _, h => by simp [dec] at h
  | _ + 1, [], _, _, h => by simp [dec] at h
  | k + 1, b :: l, v, m, h => by
    unfold dec at h
    split at h
    · cases h; simp; omega
    · simp only [Option.map_eq_some_iff] at h
      obtain ⟨⟨v', m'⟩, h1, h2⟩ := h
      cases h2
      obtain ⟨a1, a2, a3, a4⟩ := dec_in h1
      have := b.toNat_lt
      refine ⟨by omega, by omega, by simp; omega, ?_⟩
      rw [Nat.pow_succ]; simp only; omega
theorem dec_zero : ∀ {k : Nat} {l : List UInt8} {m : Nat}, dec k l = some (0, m) → l[m - 1]? = some 0
  | 0, _, _, h => by simp [dec] at h
  | _ + 1, [], _, h => by simp [dec] at h
  | k + 1, b :: l, m, h => by
    unfold dec at h
    split at h
    · simp only [Option.some.injEq, Prod.mk.injEq] at h
      obtain ⟨h1, rfl⟩ := h
      simp only [Nat.sub_self, List.getElem?_cons_zero, Option.some.injEq]
      exact UInt8.toNat_inj.1 h1
    · simp only [Option.map_eq_some_iff] at h
      obtain ⟨⟨v', m'⟩, h1, h2⟩ := h
      simp only [Prod.mk.injEq] at h2
      obtain ⟨h2, rfl⟩ := h2
      have hv : v' = 0 := by omega
      subst hv
      have h3 := dec_zero h1
      have h4 := (dec_in h1).1
      rw [show m' + 1 - 1 = (m' - 1) + 1 from by omega, List.getElem?_cons_succ]
      exact h3
theorem dec_one {k : Nat} {l : List UInt8} {v : Nat} (h : dec k l = some (v, 1)) : ∃ b, l[0]? = some b ∧ b.toNat = v := by
  cases k with
  | zero => simp [dec] at h
  | succ k =>
    cases l with
    | nil => simp [dec] at h
    | cons b l =>
      unfold dec at h
      split at h
      · cases h; exact ⟨b, rfl, rfl⟩
      · simp only [Option.map_eq_some_iff] at h
        obtain ⟨⟨v', m'⟩, h1, h2⟩ := h
        simp only [Prod.mk.injEq] at h2
        have := (dec_in h1).1
        omega
theorem dec_form : ∀ {k : Nat} {l : List UInt8} {v m : Nat}, k ≤ 5 → dec k l = some (v, m) → (vB v = l.take m ↔ (m = 1 ∨ l[m - 1]? ≠ some 0))
  | 0, _, _, _, _, h => by simp [dec] at h
  | _ + 1, [], _, _, _, h => by simp [dec] at h
  | k + 1, b :: l, v, m, hk, h => by
    have hin := dec_in h
    unfold dec at h
    split at h
    · cases h
      rename_i hb
      rw [vB_lo (by omega), by8_of]
      simp
    · rename_i hb
      simp only [Option.map_eq_some_iff] at h
      obtain ⟨⟨v', m'⟩, h1, h2⟩ := h
      simp only [Prod.mk.injEq] at h2
      obtain ⟨rfl, rfl⟩ := h2
      have hb' := b.toNat_lt
      obtain ⟨a1, a2, a3, a4⟩ := dec_in h1
      have hlt : v' < 34359738368 := Nat.lt_of_lt_of_le a4 (Nat.pow_le_pow_right (by omega) (show m' ≤ 5 by omega))
      have ih := dec_form (show k ≤ 5 by omega) h1
      have hlt2 : b.toNat - 128 + 128 * v' < 34359738368 := Nat.lt_of_lt_of_le hin.2.2.2 (Nat.pow_le_pow_right (by omega) (show m' + 1 ≤ 5 by omega))
      have e1 : (b :: l)[m' + 1 - 1]? = l[m' - 1]? := by rw [show m' + 1 - 1 = (m' - 1) + 1 from by omega, List.getElem?_cons_succ]
      rw [e1, List.take_succ_cons]
      by_cases hs : b.toNat - 128 + 128 * v' ≤ 127
      · have hv : v' = 0 := by omega
        subst hv
        have h0 := dec_zero h1
        rw [vB_lo hs, h0]
        constructor
        · intro h
          have := congrArg List.length h
          rw [List.length_cons, List.length_nil, List.length_cons, List.length_take] at this
          omega
        · rintro (h | h)
          · omega
          · exact absurd rfl h
      · rw [vB_hi (by omega) hlt2]
        have q1 : (b.toNat - 128 + 128 * v') % 128 + 128 = b.toNat := by omega
        have q2 : (b.toNat - 128 + 128 * v') / 128 = v' := by omega
        rw [q1, q2, by8_of, List.cons.injEq]
        simp only [true_and, ih]
        constructor
        · rintro (h | h)
          · subst h
            obtain ⟨c, hc1, hc2⟩ := dec_one h1
            right
            simp only [Nat.sub_self, hc1, ne_eq, Option.some.injEq]
            rintro rfl
            have : v' = 0 := by rw [← hc2]; rfl
            omega
          · exact .inr h
        · rintro (h | h)
          · omega
          · exact .inr h
/-- What is read there, when it is a number in its own bytes. -/
def rdV (l : List UInt8) : Option (Nat × Nat) := match dec 5 l with
  | some (v, m) => if v ≤ 1000000000 ∧ vB v = l.take m then some (v, m) else none
  | none => none
theorem rdV_in {l : List UInt8} {v m : Nat} (h : rdV l = some (v, m)) : v ≤ 1000000000 ∧ vB v = l.take m ∧ 1 ≤ m ∧ m ≤ 5 ∧ m ≤ l.length := by
  unfold rdV at h
  split at h
  · rename_i v' m' hd
    split at h
    · rename_i hc
      cases h
      obtain ⟨a1, a2, a3, a4⟩ := dec_in hd
      exact ⟨hc.1, hc.2, a1, a2, a3⟩
    · cases h
  · cases h
/-- A loop that reads a number. -/
theorem rvLoop (T : List UInt8) (a : Nat) {B : Type} {F : (Int × Int × Int → Option B) → Int × Int × Int → Option B} (z : B) (fin : Nat → Nat → B)
    (hF : ∀ self (acc u i : Nat) b, T[i]? = some b → a ≤ i → i < a + 5 → acc < 268435456 → u ≤ 268435456 → F self ((acc : Int), (u : Int), (i : Int)) = if b.toNat < 128 then some (fin (acc + b.toNat * u) i) else self (((acc + (b.toNat - 128) * u : Nat) : Int), ((u * 128 : Nat) : Int), ((i + 1 : Nat) : Int)))
    (hE : ∀ self (acc u i : Nat), (T[i]? = none ∨ i = a + 5) → a ≤ i → F self ((acc : Int), (u : Int), (i : Int)) = some z) :
    loopT BIG F (0, 1, (a : Int)) = some (match dec 5 (T.drop a) with | some (v, m) => fin v (a + m - 1) | none => z) := by
  have key : ∀ (k n j acc : Nat), j + k = 5 → k < n → acc < 128 ^ j → it F n ((acc : Int), ((128 ^ j : Nat) : Int), ((a + j : Nat) : Int)) = some (match dec k (T.drop (a + j)) with | some (v, m) => fin (acc + 128 ^ j * v) (a + j + m - 1) | none => z) := by
    intro k
    induction k with
    | zero =>
      intro n j acc hj hn ha
      obtain ⟨m, rfl⟩ : ∃ m, n = m + 1 := ⟨n - 1, by omega⟩
      show F (it F m) _ = _
      rw [hE _ _ _ _ (.inr (by omega)) (by omega)]
      rfl
    | succ k ih =>
      intro n j acc hj hn ha
      obtain ⟨m, rfl⟩ : ∃ m, n = m + 1 := ⟨n - 1, by omega⟩
      show F (it F m) _ = _
      have hp : 128 ^ j ≤ 268435456 := Nat.pow_le_pow_right (by omega) (show j ≤ 4 by omega)
      cases hb : T[a + j]? with
      | none =>
        rw [hE _ _ _ _ (.inl hb) (by omega)]
        have : T.drop (a + j) = [] := List.drop_eq_nil_iff.2 (by simpa using hb)
        rw [this]; rfl
      | some b =>
        have hi := (List.getElem?_eq_some_iff.1 hb).1
        have hbl := b.toNat_lt
        have hd : T.drop (a + j) = b :: T.drop (a + (j + 1)) := by
          rw [List.drop_eq_getElem_cons hi]
          congr 1
          exact (List.getElem?_eq_some_iff.1 hb).2
        rw [hF _ _ _ _ b hb (by omega) (by omega) (by omega) hp, hd]
        unfold dec
        split
        · simp only [Nat.add_sub_cancel]
          rw [Nat.mul_comm]
        · have := ih m (j + 1) (acc + (b.toNat - 128) * 128 ^ j) (by omega) (by omega) (by
            rw [Nat.pow_succ]
            have : (b.toNat - 128) * 128 ^ j ≤ 127 * 128 ^ j := Nat.mul_le_mul_right _ (by omega)
            omega)
          rw [Nat.pow_succ] at this
          rw [show a + j + 1 = a + (j + 1) from by omega, this]
          cases dec k (T.drop (a + (j + 1))) with
          | none => rfl
          | some r =>
            obtain ⟨v, m⟩ := r
            simp only [Option.map_some]
            congr 2
            · rw [Nat.mul_add, Nat.mul_comm (128 ^ j) (b.toNat - 128), Nat.mul_assoc]
              omega
            · omega
  have := key 5 BIG 0 0 (by omega) (by decide) (by simp)
  show it F BIG _ = _
  simpa using this
/-- What reading a number gives. -/
def rvR (T : List UInt8) (a : Int) : Int × Int × Bool :=
  if inB a 0 (T.length : Int) then (match rdV (T.drop a.toNat) with | some (v, m) => ((v : Int), a + (m : Int), true) | none => (0, 0, false)) else (0, 0, false)
theorem w_iReadVar (T : List UInt8) (a : Int) (hl : T.length ≤ 2097152) : g_iReadVar (BA T, a) = some (rvR T a, ()) := by
  show f_iReadVar BIG _ = _
  rw [e_iReadVar, h_iin', Option.bind_some, BA_size]
  unfold rvR
  cases ha : inB a 0 (T.length : Int) with
  | false => rfl
  | true =>
    rw [inB_t] at ha
    obtain ⟨a, rfl⟩ : ∃ b : Nat, a = b := ⟨a.toNat, by omega⟩
    simp only [Bool.not_true, cond_false, if_true, Int.toNat_natCast]
    rw [rvLoop T a (z := .inl ()) (fun v i => if (T[i]? = some 0 ∧ a < i) ∨ 1000000000 < v then .inl () else .inr ((v : Int), (i : Int) + 1, true))]
    · unfold rdV
      cases hd : dec 5 (T.drop a) with
      | none => rfl
      | some r =>
        obtain ⟨v, m⟩ := r
        have hf := dec_form (by omega) hd
        obtain ⟨a1, a2, a3, a4⟩ := dec_in hd
        rw [List.getElem?_drop, show a + (m - 1) = a + m - 1 from by omega] at hf
        simp only
        by_cases hc : (T[a + m - 1]? = some 0 ∧ a < a + m - 1) ∨ 1000000000 < v
        · rw [if_pos hc, if_neg]
          · rfl
          · rintro ⟨h1, h2⟩
            have := hf.1 h2
            rcases hc with ⟨hc1, hc2⟩ | hc
            · rcases this with h | h
              · omega
              · exact h hc1
            · omega
        · rw [if_neg hc, if_pos]
          · rw [show ((a + m - 1 : Nat) : Int) + 1 = (a : Int) + (m : Int) from by omega]
            rfl
          · refine ⟨Nat.le_of_not_lt fun h => hc (.inr h), hf.2 ?_⟩
            by_cases hm : m = 1
            · exact .inl hm
            · exact .inr fun h => hc (.inl ⟨h, by omega⟩)
    · intro self acc u i b hb hai hia hacc hu
      have hi := (List.getElem?_eq_some_iff.1 hb).1
      have hbl := b.toNat_lt
      have hbu : b.toNat * u ≤ 255 * 268435456 := Nat.mul_le_mul (by omega) hu
      have hml : maxLen = 9223372036854775807 := by decide
      simp only [show ((i : Int) < (T.length : Int)) from by omega, decide_true, cond_true, Option.bind_some]
      rw [wr (n := (a : Int) + 5) (by omega) (by omega), decide_eq_true (show (i : Int) < (a : Int) + 5 from by omega), cond_true, bnd_nat hi, BA_get, hb, Option.bind_some]
      rw [show decide ((128 : Int) = 0) = false from rfl, cond_false, wr (n := (b.toNat : Int)) (by omega) (by omega)]
      rw [Int.tmod_eq_emod_of_nonneg (by omega)]
      by_cases h : b.toNat < 128
      · have e1 : (b.toNat : Int) % 128 = (b.toNat : Int) := by omega
        have e2 : (b.toNat : Int) * (u : Int) = ((b.toNat * u : Nat) : Int) := by simp
        rw [decide_eq_true (by omega), cond_true, if_pos h, e1, e2, wrapi (by omega), show ((acc : Int) + ((b.toNat * u : Nat) : Int)) = ((acc + b.toNat * u : Nat) : Int) from by omega, wrapi (by omega), wr1 (by omega)]
        have hz : some b = some 0 ↔ b.toNat = 0 := by
          rw [Option.some.injEq]
          constructor
          · rintro rfl; rfl
          · intro h; exact UInt8.toNat_inj.1 h
        by_cases c1 : b.toNat = 0
        · rw [decide_eq_true (by omega), cond_true]
          by_cases c2 : a < i
          · rw [decide_eq_true (by omega)]
            simp only [cond_true, Option.bind_some]
            rw [if_pos (.inl ⟨hz.2 c1, c2⟩)]
          · rw [decide_eq_false (by omega)]
            simp only [cond_false, Option.bind_some]
            by_cases c3 : 1000000000 < acc + b.toNat * u
            · rw [decide_eq_true (by omega), if_pos (.inr c3)]; rfl
            · rw [decide_eq_false (by omega), if_neg (by rintro (h | h) <;> omega)]; rfl
        · rw [decide_eq_false (by omega)]
          simp only [cond_false, Option.bind_some]
          by_cases c3 : 1000000000 < acc + b.toNat * u
          · rw [decide_eq_true (by omega), if_pos (.inr c3)]; rfl
          · rw [decide_eq_false (by omega), if_neg (by
              rintro (⟨h, _⟩ | h)
              · exact c1 (hz.1 h)
              · omega)]; rfl
      · have e1 : (b.toNat : Int) % 128 = ((b.toNat - 128 : Nat) : Int) := by omega
        have e2 : ((b.toNat - 128 : Nat) : Int) * (u : Int) = (((b.toNat - 128) * u : Nat) : Int) := by simp
        have hb2 : (b.toNat - 128) * u ≤ b.toNat * u := Nat.mul_le_mul_right _ (by omega)
        rw [decide_eq_false (by omega), cond_false, if_neg h, e1, e2, wrapi (by omega), show ((acc : Int) + (((b.toNat - 128) * u : Nat) : Int)) = ((acc + (b.toNat - 128) * u : Nat) : Int) from by omega, wrapi (by omega), wr1 (by omega), show (u : Int) * 128 = ((u * 128 : Nat) : Int) from by simp, wrapi (by omega)]
    · intro self acc u i hi hai
      simp only
      by_cases c : (i : Int) < (T.length : Int)
      · rcases hi with hi | hi
        · rw [List.getElem?_eq_none_iff] at hi; omega
        · rw [decide_eq_true c, cond_true, wr (n := (a : Int) + 5) (by omega) (by omega), decide_eq_false (by omega)]; rfl
      · rw [decide_eq_false c]; rfl
theorem w_sReadVar (T : List UInt8) (a : Int) (hl : T.length ≤ 2097152) : g_sReadVar (BA T, a) = some (rvR T a, ()) := by
  show f_sReadVar BIG _ = _
  rw [e_sReadVar, h_sl01In', Option.bind_some, BA_size]
  unfold rvR
  cases ha : inB a 0 (T.length : Int) with
  | false => rfl
  | true =>
    rw [inB_t] at ha
    obtain ⟨a, rfl⟩ : ∃ b : Nat, a = b := ⟨a.toNat, by omega⟩
    simp only [Bool.not_true, cond_false, if_true, Int.toNat_natCast]
    rw [rvLoop T a (z := .inl ()) (fun v i => if 1000000000 < v ∨ vB v ≠ (T.drop a).take (i + 1 - a) then .inr (0, 0, false) else .inr ((v : Int), (i : Int) + 1, true))]
    · unfold rdV
      cases hd : dec 5 (T.drop a) with
      | none => rfl
      | some r =>
        obtain ⟨v, m⟩ := r
        obtain ⟨a1, a2, a3, a4⟩ := dec_in hd
        simp only
        rw [show a + m - 1 + 1 - a = m from by omega]
        by_cases hc : 1000000000 < v ∨ vB v ≠ (T.drop a).take m
        · rw [if_pos hc, if_neg]
          · rfl
          · rintro ⟨h1, h2⟩
            rcases hc with hc | hc
            · omega
            · exact hc h2
        · rw [if_neg hc, if_pos]
          · rw [show ((a + m - 1 : Nat) : Int) + 1 = (a : Int) + (m : Int) from by omega]
            rfl
          · refine ⟨Nat.le_of_not_lt fun h => hc (.inl h), Classical.byContradiction fun h => hc (.inr h)⟩
    · intro self acc u i b hb hai hia hacc hu
      have hi := (List.getElem?_eq_some_iff.1 hb).1
      have hbl := b.toNat_lt
      have hbu : b.toNat * u ≤ 255 * 268435456 := Nat.mul_le_mul (by omega) hu
      have hml : maxLen = 9223372036854775807 := by decide
      simp only [show ((i : Int) < (T.length : Int)) from by omega, decide_true, cond_true, Option.bind_some]
      rw [wr (n := (a : Int) + 5) (by omega) (by omega), decide_eq_true (show (i : Int) < (a : Int) + 5 from by omega), cond_true, bnd_nat hi, BA_get, hb, Option.bind_some]
      rw [show decide ((128 : Int) = 0) = false from rfl, cond_false, bnd_nat hi, BA_get, hb, Option.bind_some, wr (n := (b.toNat : Int)) (by omega) (by omega)]
      rw [Int.tmod_eq_emod_of_nonneg (by omega)]
      by_cases h : b.toNat < 128
      · have e1 : (b.toNat : Int) % 128 = (b.toNat : Int) := by omega
        have e2 : (b.toNat : Int) * (u : Int) = ((b.toNat * u : Nat) : Int) := by simp
        have hu5 : acc + b.toNat * u < 34359738368 := by
          have : b.toNat * u ≤ 127 * 268435456 := Nat.mul_le_mul (by omega) hu
          omega
        rw [decide_eq_true (by omega), cond_true, if_pos h, e1, e2, wrapi (by omega), show ((acc : Int) + ((b.toNat * u : Nat) : Int)) = ((acc + b.toNat * u : Nat) : Int) from by omega, wrapi (by omega), wr1 (by omega)]
        by_cases c3 : 1000000000 < acc + b.toNat * u
        · rw [decide_eq_true (by omega), if_pos (.inl c3)]; rfl
        · rw [decide_eq_false (by omega), cond_false, w_sl01Var _ hu5, Option.bind_some, decide_eq_true (by omega), cond_true]
          simp only [Int.toNat_natCast, BA_ext, BA_toList, Option.bind_some]
          by_cases c4 : vB (acc + b.toNat * u) = (T.drop a).take (i + 1 - a)
          · rw [if_neg (by rintro (h | h); omega; exact h c4), c4, beq_self_eq_true]; rfl
          · rw [if_pos (.inr c4), beq_eq_false_iff_ne.2 c4]; rfl
      · have e1 : (b.toNat : Int) % 128 = ((b.toNat - 128 : Nat) : Int) := by omega
        have e2 : ((b.toNat - 128 : Nat) : Int) * (u : Int) = (((b.toNat - 128) * u : Nat) : Int) := by simp
        have hb2 : (b.toNat - 128) * u ≤ b.toNat * u := Nat.mul_le_mul_right _ (by omega)
        rw [decide_eq_false (by omega), cond_false, if_neg h, e1, e2, wrapi (by omega), show ((acc : Int) + (((b.toNat - 128) * u : Nat) : Int)) = ((acc + (b.toNat - 128) * u : Nat) : Int) from by omega, wrapi (by omega), wr1 (by omega), show (u : Int) * 128 = ((u * 128 : Nat) : Int) from by simp, wrapi (by omega)]
    · intro self acc u i hi hai
      simp only
      by_cases c : (i : Int) < (T.length : Int)
      · rcases hi with hi | hi
        · rw [List.getElem?_eq_none_iff] at hi; omega
        · rw [decide_eq_true c, cond_true, wr (n := (a : Int) + 5) (by omega) (by omega), decide_eq_false (by omega)]; rfl
      · rw [decide_eq_false c]; rfl
abbrev St := Nat × Bool
def nm (T : List UInt8) (s : St) : Int × St :=
  if s.2 then (0, (s.1, true)) else match rdV (T.drop s.1) with
  | some (v, m) => ((v : Int), (s.1 + m, false))
  | none => (0, (s.1, true))
def on (T : List UInt8) (s : St) : Int × St :=
  if s.2 then (0, (s.1, true)) else match T[s.1]? with
  | some b => ((b.toNat : Int), (s.1 + 1, false))
  | none => (0, (s.1, true))
theorem nm_le {T : List UInt8} {s : St} (h : s.1 ≤ T.length) : (nm T s).2.1 ≤ T.length := by
  unfold nm
  split
  · exact h
  · split
    · rename_i v m hd
      have := (rdV_in hd).2.2.2.2
      rw [List.length_drop] at this
      simp only; omega
    · exact h
theorem on_le {T : List UInt8} {s : St} (h : s.1 ≤ T.length) : (on T s).2.1 ≤ T.length := by
  unfold on
  split
  · exact h
  · split
    · rename_i b hb
      exact (List.getElem?_eq_some_iff.1 hb).1
    · exact h
theorem nm_bad {T : List UInt8} {s : St} (h : (nm T s).2.2 = false) : s.2 = false := by
  unfold nm at h
  split at h
  · simp at h
  · rename_i hs; simpa using hs
theorem on_bad {T : List UInt8} {s : St} (h : (on T s).2.2 = false) : s.2 = false := by
  unfold on at h
  split at h
  · simp at h
  · rename_i hs; simpa using hs
/-- What was read stands there. -/
theorem nm_take {T : List UInt8} {s : St} (hs : s.1 ≤ T.length) (h : (nm T s).2.2 = false) : T.take (nm T s).2.1 = T.take s.1 ++ vB (nm T s).1.toNat ∧ 0 ≤ (nm T s).1 ∧ (nm T s).1 ≤ 1000000000 := by
  have hb := nm_bad h
  unfold nm at h ⊢
  rw [if_neg (by simp [hb])] at h ⊢
  split at h
  · rename_i v m hd
    have hi := rdV_in hd
    simp only [hd]
    refine ⟨?_, by omega, by omega⟩
    rw [Int.toNat_natCast, hi.2.1, List.take_add]
  · simp at h
theorem on_take {T : List UInt8} {s : St} (h : (on T s).2.2 = false) : T.take (on T s).2.1 = T.take s.1 ++ [by8 (on T s).1] ∧ 0 ≤ (on T s).1 ∧ (on T s).1 ≤ 255 ∧ (on T s).2.1 = s.1 + 1 := by
  have hb := on_bad h
  unfold on at h ⊢
  rw [if_neg (by simp [hb])] at h ⊢
  split at h
  · rename_i b hb'
    simp only [hb']
    have := b.toNat_lt
    refine ⟨?_, by omega, by omega, trivial⟩
    rw [by8_of, List.take_add_one, hb']
    rfl
  · simp at h
theorem w_ireader_num (T : List UInt8) (s : St) (hs : s.1 ≤ T.length) (hl : T.length ≤ 2097152) : g_ireader_num (BA T, (s.1 : Int), s.2) = some ((nm T s).1, (BA T, ((nm T s).2.1 : Int), (nm T s).2.2)) := by
  show f_ireader_num BIG _ = _
  rw [e_ireader_num]
  dsimp only
  rw [w_iReadVar T _ hl, Option.bind_some]
  unfold rvR nm
  rw [show inB (s.1 : Int) 0 (T.length : Int) = true from inB_t.2 (by omega), if_pos rfl, Int.toNat_natCast]
  cases s.2 with
  | true => rfl
  | false =>
    cases rdV (T.drop s.1) with
    | none => rfl
    | some r => rfl
theorem w_sl09Var (T : List UInt8) (s : St) (hs : s.1 ≤ T.length) (hl : T.length ≤ 2097152) : g_sl09Var (BA T, (s.1 : Int), s.2) = some ((nm T s).1, (BA T, ((nm T s).2.1 : Int), (nm T s).2.2)) := by
  show f_sl09Var BIG _ = _
  rw [e_sl09Var]
  dsimp only
  rw [w_sReadVar T _ hl, Option.bind_some]
  unfold rvR nm
  rw [show inB (s.1 : Int) 0 (T.length : Int) = true from inB_t.2 (by omega), if_pos rfl, Int.toNat_natCast]
  cases s.2 with
  | true => rfl
  | false =>
    cases rdV (T.drop s.1) with
    | none => rfl
    | some r => rfl
theorem w_ireader_one (T : List UInt8) (s : St) (hs : s.1 ≤ T.length) (hl : T.length ≤ 2097152) : g_ireader_one (BA T, (s.1 : Int), s.2) = some ((on T s).1, (BA T, ((on T s).2.1 : Int), (on T s).2.2)) := by
  show f_ireader_one BIG _ = _
  rw [e_ireader_one]
  dsimp only
  rw [BA_size]
  unfold on
  cases hb : s.2 with
  | true => rfl
  | false =>
    simp only [cond_false, Option.bind_some, Bool.false_eq_true, if_false]
    by_cases h : s.1 < T.length
    · rw [decide_eq_false (by omega), cond_false, wr (n := (s.1 : Int) + 1) (by omega) (by omega), wr (by omega) (by omega), show (s.1 : Int) + 1 - 1 = (s.1 : Int) from by omega, bnd_nat h, BA_get, List.getElem?_eq_getElem h]
      have := (T[s.1]).toNat_lt
      simp only [Option.bind_some]
      rw [wr (by omega) (by omega)]
      rfl
    · rw [decide_eq_true (by omega), List.getElem?_eq_none (by omega)]; rfl
theorem w_sl09One (T : List UInt8) (s : St) (hs : s.1 ≤ T.length) (hl : T.length ≤ 2097152) : g_sl09One (BA T, (s.1 : Int), s.2) = some ((on T s).1, (BA T, ((on T s).2.1 : Int), (on T s).2.2)) := by
  show f_sl09One BIG _ = _
  rw [e_sl09One]
  have ht : g_sl09Take ((BA T, (s.1 : Int), s.2), 1) = f_sl09Take BIG ((BA T, (s.1 : Int), s.2), 1) := rfl
  rw [ht, e_sl09Take]
  dsimp only
  rw [BA_size]
  unfold on
  cases hb : s.2 with
  | true => rfl
  | false =>
    simp only [cond_false, Option.bind_some, Bool.false_eq_true, if_false]
    rw [wr (n := (T.length : Int) - (s.1 : Int)) (by omega) (by omega)]
    by_cases h : s.1 < T.length
    · rw [decide_eq_false (by omega), cond_false, wr (n := (s.1 : Int) + 1) (by omega) (by omega), wr (n := (s.1 : Int) + 1 - 1) (by omega) (by omega), decide_eq_true (by omega)]
      simp only [cond_true, Option.bind_some, cond_false, BA_ext]
      rw [show ((s.1 : Int) + 1 - 1).toNat = s.1 from by omega, show ((s.1 : Int) + 1).toNat = s.1 + 1 from by omega, List.getElem?_eq_getElem h, BA_size]
      have h1 : ((T.drop s.1).take (s.1 + 1 - s.1)).length = 1 := by simp; omega
      rw [h1]
      have h2 : (BA ((T.drop s.1).take (s.1 + 1 - s.1)))[0]? = some T[s.1] := by
        rw [BA_get, List.getElem?_take_of_lt (by omega), List.getElem?_drop, Nat.add_zero, List.getElem?_eq_getElem h]
      have hbd : ∀ {B : Type} (k : Nat → Option B), bnd 1 (0 : Int) k = k 0 := fun k => rfl
      rw [hbd, h2]
      have := (T[s.1]).toNat_lt
      simp only [Option.bind_some]
      rw [wr (by omega) (by omega)]
      rfl
    · rw [decide_eq_true (by omega), List.getElem?_eq_none (by omega)]; rfl
def edF (T : List UInt8) : Nat → St → List Ed → St × List Ed
  | 0, s, out => (s, out)
  | k + 1, s, out => if s.2 then (s, out) else edF T k (on T (on T s).2).2 (out ++ [((on T s).1, (on T (on T s).2).1)])
theorem edF_spec (T : List UInt8) : ∀ (k : Nat) (s : St) (out : List Ed), s.1 ≤ T.length → (edF T k s out).1.1 ≤ T.length ∧ ((edF T k s out).1.2 = false → s.2 = false ∧ ∃ es, (edF T k s out).2 = out ++ es ∧ es.length = k ∧ T.take (edF T k s out).1.1 = T.take s.1 ++ es.flatMap e2)
  | 0, s, out, h => ⟨h, fun hb => ⟨hb, [], by simp [edF]⟩⟩
  | k + 1, s, out, h => by
    unfold edF
    cases hs : s.2 with
    | true => exact ⟨h, fun hb => by rw [if_pos rfl] at hb; rw [hs] at hb; cases hb⟩
    | false =>
      simp only [Bool.false_eq_true, if_false]
      have h1 := on_le h
      have h2 := on_le h1
      obtain ⟨a1, a2⟩ := edF_spec T k (on T (on T s).2).2 (out ++ [((on T s).1, (on T (on T s).2).1)]) h2
      refine ⟨a1, fun hb => ⟨trivial, ?_⟩⟩
      obtain ⟨b1, es, b2, b3, b4⟩ := a2 hb
      have c1 := on_take b1
      have c2 := on_take (on_bad b1)
      refine ⟨((on T s).1, (on T (on T s).2).1) :: es, by rw [b2]; simp, by simp [b3], ?_⟩
      rw [b4, c1.1, c2.1, List.flatMap_cons]
      simp [e2]
theorem edLoop (T : List UInt8) (hl : T.length ≤ 2097152) {X : Type} {F : (X → Option ((ByteArray × Int × Bool) × List Ed)) → X → Option ((ByteArray × Int × Bool) × List Ed)} (mk : St → List Ed → Nat → X) (K : Nat)
    (hF : ∀ self (s : St) (out : List Ed) (k : Nat), k + 1 ≤ K → s.1 ≤ T.length → (s.2 = false → out.length ≤ s.1) → F self (mk s out (k + 1)) = if s.2 then some ((BA T, (s.1 : Int), s.2), out) else self (mk (on T (on T s).2).2 (out ++ [((on T s).1, (on T (on T s).2).1)]) k))
    (hE : ∀ self (s : St) (out : List Ed), F self (mk s out 0) = some ((BA T, (s.1 : Int), s.2), out)) :
    ∀ (k n : Nat) (s : St) (out : List Ed), k ≤ K → k < n → s.1 ≤ T.length → (s.2 = false → out.length ≤ s.1) → it F n (mk s out k) = some ((BA T, ((edF T k s out).1.1 : Int), (edF T k s out).1.2), (edF T k s out).2)
  | 0, n, s, out, hk, hn, hs, ho => by
    obtain ⟨m, rfl⟩ : ∃ m, n = m + 1 := ⟨n - 1, by omega⟩
    exact hE _ _ _
  | k + 1, n, s, out, hk, hn, hs, ho => by
    obtain ⟨m, rfl⟩ : ∃ m, n = m + 1 := ⟨n - 1, by omega⟩
    show F (it F m) _ = _
    rw [hF _ _ _ _ hk hs ho]
    unfold edF
    cases hb : s.2 with
    | true => simp [hb]
    | false =>
      simp only [Bool.false_eq_true, if_false]
      refine edLoop T hl mk K hF hE k m _ _ (by omega) (by omega) (on_le (on_le hs)) (fun h => ?_)
      have h1 := (on_take h).2.2.2
      have h2 := (on_take (on_bad h)).2.2.2
      have := ho hb
      simp; omega
theorem nm_nn (T : List UInt8) (s : St) : 0 ≤ (nm T s).1 ∧ (nm T s).1 ≤ 1000000000 := by
  unfold nm
  split
  · simp
  · split
    · rename_i v m hd
      have := (rdV_in hd).1
      simp only; omega
    · simp
theorem w_ireader_edges (T : List UInt8) (s : St) (hs : s.1 ≤ T.length) (hl : T.length ≤ 2097152) : g_ireader_edges (BA T, (s.1 : Int), s.2) =
    some ((edF T (nm T s).1.toNat (nm T s).2 []).2, (BA T, ((edF T (nm T s).1.toNat (nm T s).2 []).1.1 : Int), (edF T (nm T s).1.toNat (nm T s).2 []).1.2)) := by
  show f_ireader_edges BIG _ = _
  rw [e_ireader_edges, w_ireader_num T s hs hl, Option.bind_some]
  have hnn := nm_nn T s
  obtain ⟨k, hk⟩ : ∃ k : Nat, (nm T s).1 = k := ⟨(nm T s).1.toNat, by omega⟩
  simp only
  rw [hk, Int.toNat_natCast]
  have L := edLoop T hl (F := fun self2 x1 =>
    Option.bind (bif decide ((0 : Int) < x1.2.2) then
      some !x1.1.2.2
     else some false : Option (Bool)) fun x3 =>
    bif x3 then
     Option.bind (g_ireader_one x1.1) fun r4 =>
     Option.bind (g_ireader_one r4.2) fun r5 =>
     bif decide (x1.2.1.length + ([(r4.1, r5.1)]).length ≤ 4294967296) then
      self2 (r5.2, x1.2.1 ++ ([(r4.1, r5.1)]), IntKind.wrap .i64 (x1.2.2 - (1 : Int)))
     else none
    else some (x1.1, x1.2.1)) (fun s out k => ((BA T, (s.1 : Int), s.2), out, (k : Int))) 1000000000 (by
    intro self s out k hk hs ho
    simp only [show (0 : Int) < ((k + 1 : Nat) : Int) from by omega, decide_true, cond_true, Option.bind_some]
    cases hb : s.2 with
    | true => rfl
    | false =>
      have := ho hb
      simp only [Bool.not_false, cond_true, Bool.false_eq_true, if_false]
      rw [← hb, w_ireader_one T s hs hl, Option.bind_some, w_ireader_one T _ (on_le hs) hl, Option.bind_some, decide_eq_true (by simp; omega), cond_true, wr (by omega) (by omega), show ((k + 1 : Nat) : Int) - 1 = (k : Int) from by omega]) (by
    intro self s out
    simp) k BIG (nm T s).2 [] (by omega) (by simp [BIG]; omega) (nm_le hs) (by simp)
  unfold loopT
  rw [L]
  rfl
theorem w_sl09ReadEdges (T : List UInt8) (s : St) (hs : s.1 ≤ T.length) (hl : T.length ≤ 2097152) : g_sl09ReadEdges (BA T, (s.1 : Int), s.2) =
    some ((edF T (min (nm T s).1.toNat 100) (nm T s).2 []).2, (BA T, ((edF T (min (nm T s).1.toNat 100) (nm T s).2 []).1.1 : Int), (edF T (min (nm T s).1.toNat 100) (nm T s).2 []).1.2)) := by
  show f_sl09ReadEdges BIG _ = _
  rw [e_sl09ReadEdges, w_sl09Var T s hs hl, Option.bind_some]
  have hnn := nm_nn T s
  obtain ⟨N, hN⟩ : ∃ k : Nat, (nm T s).1 = k := ⟨(nm T s).1.toNat, by omega⟩
  simp only
  rw [hN, Int.toNat_natCast]
  have L := edLoop T hl (F := fun self2 x1 =>
    Option.bind (bif decide (x1.2.2 < (N : Int)) then
      bif decide (x1.2.2 < (100 : Int)) then
       some !x1.1.2.2
      else some false
     else some false : Option (Bool)) fun x3 =>
    bif x3 then
     Option.bind (g_sl09One x1.1) fun r4 =>
     Option.bind (g_sl09One r4.2) fun r5 =>
     bif decide (x1.2.1.length + ([(r4.1, r5.1)]).length ≤ 4294967296) then
      self2 (r5.2, x1.2.1 ++ ([(r4.1, r5.1)]), IntKind.wrap .i64 (x1.2.2 + (1 : Int)))
     else none
    else some (x1.1, x1.2.1)) (fun s out k => ((BA T, (s.1 : Int), s.2), out, ((min N 100 : Nat) : Int) - (k : Int))) (min N 100) (by
    intro self s out k hk hs ho
    simp only [show ((min N 100 : Nat) : Int) - ((k + 1 : Nat) : Int) < (N : Int) from by omega, show ((min N 100 : Nat) : Int) - ((k + 1 : Nat) : Int) < 100 from by omega, decide_true, cond_true, Option.bind_some]
    cases hb : s.2 with
    | true => rfl
    | false =>
      have := ho hb
      simp only [Bool.not_false, cond_true, Bool.false_eq_true, if_false]
      rw [← hb, w_sl09One T s hs hl, Option.bind_some, w_sl09One T _ (on_le hs) hl, Option.bind_some, decide_eq_true (by simp; omega), cond_true, wr (by omega) (by omega), show ((min N 100 : Nat) : Int) - ((k + 1 : Nat) : Int) + 1 = ((min N 100 : Nat) : Int) - (k : Int) from by omega]) (by
    intro self s out
    simp only [Int.natCast_zero, Int.sub_zero]
    by_cases h : ((min N 100 : Nat) : Int) < (N : Int)
    · rw [decide_eq_true h, cond_true, decide_eq_false (by omega)]; rfl
    · rw [decide_eq_false h]; rfl) (min N 100) BIG (nm T s).2 [] (by omega) (by simp [BIG]; omega) (nm_le hs) (by simp)
  rw [show ((min N 100 : Nat) : Int) - ((min N 100 : Nat) : Int) = 0 from by omega] at L
  unfold loopT
  rw [L]
  rfl
theorem edF_len (T : List UInt8) : ∀ (k : Nat) (s : St) (out : List Ed), (edF T k s out).2.length ≤ out.length + k
  | 0, s, out => by simp [edF]
  | k + 1, s, out => by
    unfold edF
    split
    · exact Nat.le_add_right _ _
    · have := edF_len T k (on T (on T s).2).2 (out ++ [((on T s).1, (on T (on T s).2).1)])
      simp at this; omega
/-- Several edges read, with their number ahead. -/
theorem ed_take {T : List UInt8} {s : St} {K : Nat} (hs : s.1 ≤ T.length) (hK : K = (nm T s).1.toNat) (h : (edF T K (nm T s).2 []).1.2 = false) :
    (nm T s).2.2 = false ∧ (edF T K (nm T s).2 []).2.length = K ∧ T.take (edF T K (nm T s).2 []).1.1 = T.take s.1 ++ eT (edF T K (nm T s).2 []).2 := by
  obtain ⟨h1, h2⟩ := edF_spec T K (nm T s).2 [] (nm_le hs)
  obtain ⟨b1, es, b2, b3, b4⟩ := h2 h
  have c := nm_take hs b1
  rw [List.nil_append] at b2
  refine ⟨b1, by rw [b2]; exact b3, ?_⟩
  rw [b4, c.1, ← hK, List.append_assoc, b2]
  unfold eT
  rw [b3]
theorem take_full {T : List UInt8} {p : Nat} (hp : p ≤ T.length) : T.take p = T ↔ p = T.length := by
  constructor
  · intro h
    have := congrArg List.length h
    rw [List.length_take] at this; omega
  · rintro rfl; exact List.take_length
def q0 (T : List UInt8) : Int × St := nm T (0, false)
def q1 (T : List UInt8) : Int × St := on T (q0 T).2
def q2 (T : List UInt8) : Int × St := nm T (q1 T).2
def q3 (T : List UInt8) (K : Nat) : St × List Ed := edF T K (nm T (q2 T).2).2 []
def oQ (T : List UInt8) (K : Nat) : Or' := ((q0 T).1, (q1 T).1, (q3 T K).2, (q2 T).1)
theorem q_le (T : List UInt8) : (q0 T).2.1 ≤ T.length ∧ (q1 T).2.1 ≤ T.length ∧ (q2 T).2.1 ≤ T.length :=
  have h0 := nm_le (T := T) (s := (0, false)) (Nat.zero_le _)
  ⟨h0, on_le h0, nm_le (on_le h0)⟩
theorem oQ_take {T : List UInt8} {K : Nat} (hK : K = (nm T (q2 T).2).1.toNat) (h : (q3 T K).1.2 = false) : (q3 T K).2.length = K ∧ T.take (q3 T K).1.1 = oT (oQ T K) ∧ (q3 T K).1.1 ≤ T.length := by
  obtain ⟨l0, l1, l2⟩ := q_le T
  obtain ⟨a1, a2, a3⟩ := ed_take l2 hK h
  have a4 := nm_bad a1
  have b2 := nm_take l1 a4
  have a5 := nm_bad a4
  have b1 := on_take a5
  have a6 := on_bad a5
  have b0 := nm_take (Nat.zero_le _) a6
  refine ⟨a2, ?_, (edF_spec T K (nm T (q2 T).2).2 [] (nm_le l2)).1⟩
  have e0 : T.take (q0 T).2.1 = vB (q0 T).1.toNat := by have := b0.1; simp only [List.take_zero, List.nil_append] at this; exact this
  have e1 : T.take (q1 T).2.1 = vB (q0 T).1.toNat ++ [by8 (q1 T).1] := by rw [← e0]; exact b1.1
  have e2 : T.take (q2 T).2.1 = (vB (q0 T).1.toNat ++ [by8 (q1 T).1]) ++ vB (q2 T).1.toNat := by rw [← e1]; exact b2.1
  show T.take (q3 T K).1.1 = ((vB (q0 T).1.toNat ++ [by8 (q1 T).1]) ++ vB (q2 T).1.toNat) ++ eT (q3 T K).2
  rw [← e2]; exact a3
/-- The order that stands in a text. -/
def rdO (n : Int) (T : List UInt8) : Option Or' :=
  let K := (nm T (q2 T).2).1.toNat
  if (q3 T K).1.2 = false ∧ (q3 T K).1.1 = T.length ∧ ordB n (oQ T K) = true then some (oQ T K) else none
theorem rdO_some {n : Int} {T : List UInt8} {o : Or'} (h : rdO n T = some o) : ordB n o = true ∧ oT o = T := by
  unfold rdO at h
  simp only at h
  split at h
  · rename_i hc
    cases h
    have := oQ_take rfl hc.1
    refine ⟨hc.2.2, ?_⟩
    rw [← this.2.1, hc.2.1, List.take_length]
  · cases h
def roR : Option Or' → Int × Int × List Ed × Int × Bool
  | some o => (o.1, o.2.1, o.2.2.1, o.2.2.2, true)
  | none => (0, 0, [], 0, false)
theorem w_iReadOrder (n : Int) (T : List UInt8) (hl : T.length ≤ 1048576) : g_iReadOrder (n, BA T) = some (roR (rdO n T), ()) := by
  obtain ⟨l0, l1, l2⟩ := q_le T
  show f_iReadOrder BIG _ = _
  have r0 : g_ireader_num (BA T, (0 : Int), false) = some ((q0 T).1, (BA T, ((q0 T).2.1 : Int), (q0 T).2.2)) := w_ireader_num T (0, false) (Nat.zero_le _) (by omega)
  have r1 : g_ireader_one (BA T, ((q0 T).2.1 : Int), (q0 T).2.2) = some ((q1 T).1, (BA T, ((q1 T).2.1 : Int), (q1 T).2.2)) := w_ireader_one T (q0 T).2 l0 (by omega)
  have r2 : g_ireader_num (BA T, ((q1 T).2.1 : Int), (q1 T).2.2) = some ((q2 T).1, (BA T, ((q2 T).2.1 : Int), (q2 T).2.2)) := w_ireader_num T (q1 T).2 l1 (by omega)
  have r3 : g_ireader_edges (BA T, ((q2 T).2.1 : Int), (q2 T).2.2) = some ((q3 T (nm T (q2 T).2).1.toNat).2, (BA T, ((q3 T (nm T (q2 T).2).1.toNat).1.1 : Int), (q3 T (nm T (q2 T).2).1.toNat).1.2)) := w_ireader_edges T (q2 T).2 l2 (by omega)
  rw [e_iReadOrder, r0, Option.bind_some]
  simp only [r1, r2, r3, Option.bind_some]
  unfold rdO
  simp only
  generalize hK : (nm T (q2 T).2).1.toNat = K
  have he : ∀ p b, g_ireader_ends (BA T, p, b) = some (!b && decide (p = (T.length : Int)), (BA T, p, b)) := by
    intro p b
    show f_ireader_ends BIG _ = _
    rw [e_ireader_ends]
    cases b <;> rfl
  rw [he]
  simp only [Option.bind_some]
  show (Option.bind (bif !(!(q3 T K).1.2 && decide (((q3 T K).1.1 : Int) = (T.length : Int))) then some true else Option.bind (g_iOrderOk (n, oQ T K)) fun r5 => some !r5.1 : Option Bool) fun x6 =>
    bif x6 then some (((0 : Int), (0 : Int), [], (0 : Int), false), ()) else some (((q0 T).1, (q1 T).1, (q3 T K).2, (q2 T).1, true), ())) = _
  cases hb : (q3 T K).1.2 with
  | true => simp [roR]
  | false =>
    by_cases hp : (q3 T K).1.1 = T.length
    · have hq := oQ_take hK.symm hb
      have hlen : (q3 T K).2.length ≤ 1048576 := by
        have h1 := congrArg List.length hq.2.1
        rw [List.length_take] at h1
        simp only [oT, eT, List.length_append, flat2_len] at h1
        have : (oQ T K).2.2.1 = (q3 T K).2 := rfl
        rw [this] at h1
        omega
      rw [h_iOrderOk n (oQ T K) hlen]
      simp only [hp, decide_true, Bool.not_false, Bool.and_self, Bool.not_true, cond_false, Option.bind_some, true_and]
      cases hO : ordB n (oQ T K) with
      | false => simp [roR]
      | true => simp [roR, oQ]
    · have : decide (((q3 T K).1.1 : Int) = (T.length : Int)) = false := decide_eq_false (by omega)
      simp [this, hp, roR]
theorem w_sReadOrder (n : Int) (T : List UInt8) (hl : T.length ≤ 1048576) : g_sReadOrder (n, BA T) = some (roR (rdO n T), ()) := by
  obtain ⟨l0, l1, l2⟩ := q_le T
  show f_sReadOrder BIG _ = _
  have r0 : g_sl09Var (BA T, (0 : Int), false) = some ((q0 T).1, (BA T, ((q0 T).2.1 : Int), (q0 T).2.2)) := w_sl09Var T (0, false) (Nat.zero_le _) (by omega)
  have r1 : g_sl09One (BA T, ((q0 T).2.1 : Int), (q0 T).2.2) = some ((q1 T).1, (BA T, ((q1 T).2.1 : Int), (q1 T).2.2)) := w_sl09One T (q0 T).2 l0 (by omega)
  have r2 : g_sl09Var (BA T, ((q1 T).2.1 : Int), (q1 T).2.2) = some ((q2 T).1, (BA T, ((q2 T).2.1 : Int), (q2 T).2.2)) := w_sl09Var T (q1 T).2 l1 (by omega)
  have r3 : g_sl09ReadEdges (BA T, ((q2 T).2.1 : Int), (q2 T).2.2) = some ((q3 T (min (nm T (q2 T).2).1.toNat 100)).2, (BA T, ((q3 T (min (nm T (q2 T).2).1.toNat 100)).1.1 : Int), (q3 T (min (nm T (q2 T).2).1.toNat 100)).1.2)) := w_sl09ReadEdges T (q2 T).2 l2 (by omega)
  rw [e_sReadOrder, r0, Option.bind_some]
  simp only [r1, r2, r3, Option.bind_some]
  unfold rdO
  simp only
  generalize hK : (nm T (q2 T).2).1.toNat = K
  have hlen : (q3 T (min K 100)).2.length ≤ 1048576 := by
    have := edF_len T (min K 100) (nm T (q2 T).2).2 []
    have h2 : (q3 T (min K 100)).2.length ≤ 0 + min K 100 := this
    omega
  show (Option.bind (g_sOrderText (n, oQ T (min K 100))) fun r4 => Option.bind (bif (q3 T (min K 100)).1.2 then some true else bif !r4.1.2 then some true else some (!(r4.1.1.toList == (BA T).toList)) : Option Bool) fun x5 =>
    bif x5 then some (((0 : Int), (0 : Int), [], (0 : Int), false), ()) else some (((q0 T).1, (q1 T).1, (q3 T (min K 100)).2, (q2 T).1, true), ())) = _
  rw [w_sOrderText n _ hlen, Option.bind_some]
  by_cases hk : K ≤ 100
  · rw [show min K 100 = K from by omega]
    cases hb : (q3 T K).1.2 with
    | true => simp [roR]
    | false =>
      have hq := oQ_take hK.symm hb
      cases hO : ordB n (oQ T K) with
      | false => simp [roR]
      | true =>
        simp only [if_true, Bool.not_true, cond_false, BA_toList, Option.bind_some, true_and, and_true]
        by_cases hp : (q3 T K).1.1 = T.length
        · have : oT (oQ T K) = T := by rw [← hq.2.1, hp, List.take_length]
          rw [this, beq_self_eq_true, if_pos hp]
          rfl
        · have : ¬ oT (oQ T K) = T := by
            rw [← hq.2.1, take_full hq.2.2]; exact hp
          simp [this, hp, roR, beq_eq_false_iff_ne.2 this]
  · have hbig : ∀ M, 66 < M → (q3 T M).2.length = M → ordB n (oQ T M) = false := by
      intro M hM hl
      cases h : ordB n (oQ T M) with
      | false => rfl
      | true =>
        have := eOk_len (ordB_in h).2.2.2.2.2.2.2.2
        have h2 : (oQ T M).2.2.1 = (q3 T M).2 := rfl
        rw [h2, hl] at this
        omega
    have r1 : (bif (q3 T (min K 100)).1.2 then some true else bif !(if ordB n (oQ T (min K 100)) = true then (BA (oT (oQ T (min K 100))), true) else (BA [], false)).2 then some true else some (!((if ordB n (oQ T (min K 100)) = true then (BA (oT (oQ T (min K 100))), true) else (BA [], false)).1.toList == (BA T).toList)) : Option Bool) = some true := by
      cases hb : (q3 T (min K 100)).1.2 with
      | true => rfl
      | false =>
        obtain ⟨_, h2⟩ := edF_spec T (min K 100) (nm T (q2 T).2).2 [] (nm_le l2)
        obtain ⟨_, es, b2, b3, _⟩ := h2 hb
        have h3 : (q3 T (min K 100)).2.length = min K 100 := by
          show (edF T (min K 100) (nm T (q2 T).2).2 []).2.length = _
          rw [b2]; simpa using b3
        rw [hbig _ (by omega) h3]; rfl
    rw [r1]
    have r2 : ¬ ((q3 T K).1.2 = false ∧ (q3 T K).1.1 = T.length ∧ ordB n (oQ T K) = true) := by
      rintro ⟨hb, _, hO⟩
      have hq := oQ_take hK.symm hb
      rw [hbig K (by omega) hq.1] at hO
      cases hO
    rw [if_neg r2]
    rfl
def lbF (T : List UInt8) : Nat → St → List Int → St × List Int
  | 0, s, out => (s, out)
  | k + 1, s, out => lbF T k (on T s).2 (out ++ [(on T s).1])
def lbG (T : List UInt8) : Nat → St → List Int → St × List Int
  | 0, s, out => (s, out)
  | k + 1, s, out => if s.2 then (s, out) else lbG T k (on T s).2 (out ++ [(on T s).1])
theorem on_stick {T : List UInt8} {s : St} (h : s.2 = true) : (on T s).2.2 = true := by unfold on; rw [if_pos h]
theorem lbF_stick (T : List UInt8) : ∀ (k : Nat) (s : St) (out : List Int), s.2 = true → (lbF T k s out).1.2 = true
  | 0, s, out, h => h
  | k + 1, s, out, h => lbF_stick T k _ _ (on_stick h)
theorem lbG_of (T : List UInt8) : ∀ (k : Nat) (s : St) (out : List Int), ((lbF T k s out).1.2 = false → lbG T k s out = lbF T k s out) ∧ ((lbF T k s out).1.2 = true → (lbG T k s out).1.2 = true)
  | 0, s, out => ⟨fun _ => rfl, fun h => h⟩
  | k + 1, s, out => by
    cases hs : s.2 with
    | true =>
      have := lbF_stick T (k + 1) s out hs
      refine ⟨fun h => (by rw [this] at h; cases h), fun _ => ?_⟩
      unfold lbG
      rw [if_pos hs]; exact hs
    | false =>
      have := lbG_of T k (on T s).2 (out ++ [(on T s).1])
      have e : lbG T (k + 1) s out = lbG T k (on T s).2 (out ++ [(on T s).1]) := by
        show (if s.2 then _ else _) = _
        rw [if_neg (by simp [hs])]
      rw [e]
      exact this
theorem lbF_len (T : List UInt8) : ∀ (k : Nat) (s : St) (out : List Int), (lbF T k s out).2.length = out.length + k
  | 0, s, out => rfl
  | k + 1, s, out => by
    show (lbF T k _ _).2.length = _
    rw [lbF_len T k]; simp; omega
theorem lbG_len (T : List UInt8) : ∀ (k : Nat) (s : St) (out : List Int), (lbG T k s out).2.length ≤ out.length + k
  | 0, s, out => Nat.le_refl _
  | k + 1, s, out => by
    unfold lbG
    split
    · exact Nat.le_add_right _ _
    · have := lbG_len T k (on T s).2 (out ++ [(on T s).1])
      simp at this; omega
theorem lbF_le (T : List UInt8) : ∀ (k : Nat) (s : St) (out : List Int), s.1 ≤ T.length → (lbF T k s out).1.1 ≤ T.length
  | 0, s, out, h => h
  | k + 1, s, out, h => lbF_le T k _ _ (on_le h)
theorem lbF_spec (T : List UInt8) : ∀ (k : Nat) (s : St) (out : List Int), (lbF T k s out).1.2 = false → s.2 = false ∧ ∃ es, (lbF T k s out).2 = out ++ es ∧ es.length = k ∧ T.take (lbF T k s out).1.1 = T.take s.1 ++ es.map by8
  | 0, s, out, h => ⟨h, [], by simp [lbF]⟩
  | k + 1, s, out, h => by
    obtain ⟨b1, es, b2, b3, b4⟩ := lbF_spec T k (on T s).2 (out ++ [(on T s).1]) h
    have c1 := on_take b1
    refine ⟨on_bad b1, (on T s).1 :: es, ?_, by simp [b3], ?_⟩
    · show (lbF T k _ _).2 = _
      rw [b2]; simp
    · show T.take (lbF T k (on T s).2 (out ++ [(on T s).1])).1.1 = _
      rw [b4, c1.1]; simp
theorem lbF_fold (T : List UInt8) {α : Type} : ∀ (l : List α) (s : St × List Int), l.foldl (fun s _ => ((on T s.1).2, s.2 ++ [(on T s.1).1])) s = lbF T l.length s.1 s.2
  | [], s => rfl
  | _ :: l, s => by rw [List.foldl_cons, lbF_fold T l]; rfl
theorem lbLoop (T : List UInt8) {X B : Type} {F : (X → Option B) → X → Option B} (mk : St → List Int → Nat → X) (res : St → List Int → B) (K : Nat)
    (hF : ∀ self (s : St) (out : List Int) (k : Nat), s.1 ≤ T.length → out.length + (k + 1) ≤ K → F self (mk s out (k + 1)) = if s.2 then some (res s out) else self (mk (on T s).2 (out ++ [(on T s).1]) k))
    (hE : ∀ self (s : St) (out : List Int), F self (mk s out 0) = some (res s out)) :
    ∀ (k n : Nat) (s : St) (out : List Int), out.length + k ≤ K → k < n → s.1 ≤ T.length → it F n (mk s out k) = some (res (lbG T k s out).1 (lbG T k s out).2)
  | 0, n, s, out, hk, hn, hs => by
    obtain ⟨m, rfl⟩ : ∃ m, n = m + 1 := ⟨n - 1, by omega⟩
    exact hE _ _ _
  | k + 1, n, s, out, hk, hn, hs => by
    obtain ⟨m, rfl⟩ : ∃ m, n = m + 1 := ⟨n - 1, by omega⟩
    show F (it F m) _ = _
    rw [hF _ _ _ _ hs hk]
    unfold lbG
    split
    · rfl
    · exact lbLoop T mk res K hF hE k m _ _ (by simp; omega) (by omega) (on_le hs)
def q4 (T : List UInt8) (K : Nat) : St × List Ed := edF T K (nm T (q1 T).2).2 []
def q5 (T : List UInt8) (K N : Nat) : St × List Int := lbF T N (q4 T K).1 []
def aQ (T : List UInt8) (K : Nat) (L : List Int) : An := ((q0 T).1, decide ((q1 T).1 = 1), (q4 T K).2, L)
theorem by8_01 {b : Int} (h0 : 0 ≤ b) (h1 : b ≤ 255) : (∃ c, flT c = [by8 b]) ↔ b ≤ 1 := by
  constructor
  · rintro ⟨c, hc⟩
    have := congrArg (fun l : List UInt8 => (l.getD 0 9).toNat) hc
    obtain ⟨n, rfl⟩ : ∃ n : Nat, b = n := ⟨b.toNat, by omega⟩
    simp only [flT, List.getD_cons_zero] at this
    rw [by8_toNat (by omega)] at this
    cases c <;> simp at this <;> omega
  · intro h
    rcases (show b = 0 ∨ b = 1 by omega) with rfl | rfl
    · exact ⟨false, rfl⟩
    · exact ⟨true, rfl⟩
theorem flT_1 {b : Int} (h0 : 0 ≤ b) (h1 : b ≤ 1) : flT (decide (b = 1)) = [by8 b] := by
  rcases (show b = 0 ∨ b = 1 by omega) with rfl | rfl <;> rfl
theorem aQ_take {T : List UInt8} {K N : Nat} (hK : K = (nm T (q1 T).2).1.toNat) (h : (q5 T K N).1.2 = false) : (q4 T K).2.length = K ∧ (q5 T K N).2.length = N ∧ (0 ≤ (q1 T).1 ∧ (q1 T).1 ≤ 255) ∧
    T.take (q5 T K N).1.1 = ((vB (q0 T).1.toNat ++ [by8 (q1 T).1]) ++ eT (q4 T K).2) ++ (q5 T K N).2.map by8 ∧ (q5 T K N).1.1 ≤ T.length := by
  obtain ⟨l0, l1, l2⟩ := q_le T
  obtain ⟨a0, es, c2, c3, c4⟩ := lbF_spec T N (q4 T K).1 [] h
  obtain ⟨a1, a2, a3⟩ := ed_take l1 hK a0
  have a5 := nm_bad a1
  have b1 := on_take a5
  have a6 := on_bad a5
  have b0 := nm_take (Nat.zero_le _) a6
  have e0 : T.take (q0 T).2.1 = vB (q0 T).1.toNat := by have := b0.1; simp only [List.take_zero, List.nil_append] at this; exact this
  have e1 : T.take (q1 T).2.1 = vB (q0 T).1.toNat ++ [by8 (q1 T).1] := by rw [← e0]; exact b1.1
  refine ⟨a2, ?_, ⟨b1.2.1, b1.2.2.1⟩, ?_, lbF_le T N _ _ (edF_spec T K (nm T (q1 T).2).2 [] (nm_le l1)).1⟩
  · rw [show (q5 T K N).2.length = _ from lbF_len T N _ _]; simp
  · rw [← e1]
    have h5 : (q5 T K N).2 = es := by rw [← List.nil_append es]; exact c2
    rw [h5]
    show T.take (lbF T N (q4 T K).1 []).1.1 = _
    rw [c4]
    congr 1
/-- The answer that stands in a text. -/
def rdA (n : Int) (T : List UInt8) : Option An :=
  let K := (nm T (q1 T).2).1.toNat
  if inB n 1 12 = true ∧ (q5 T K n.toNat).1.2 = false ∧ (q5 T K n.toNat).1.1 = T.length ∧ (q1 T).1 ≤ 1 ∧ ansB n (aQ T K (q5 T K n.toNat).2) = true then some (aQ T K (q5 T K n.toNat).2) else none
theorem rdA_some {n : Int} {T : List UInt8} {a : An} (h : rdA n T = some a) : ansB n a = true ∧ aT a = T := by
  unfold rdA at h
  simp only at h
  split at h
  · rename_i hc
    cases h
    have := aQ_take rfl hc.2.1
    refine ⟨hc.2.2.2.2, ?_⟩
    conv => rhs; rw [← List.take_length (l := T), ← hc.2.2.1, this.2.2.2.1, ← flT_1 this.2.2.1.1 hc.2.2.2.1]
    rfl
  · cases h
def raR : Option An → Int × Bool × List Ed × List Int × Bool
  | some a => (a.1, a.2.1, a.2.2.1, a.2.2.2, true)
  | none => (0, false, [], [], false)
theorem w_iReadAnswer (n : Int) (T : List UInt8) (hl : T.length ≤ 1048576) : g_iReadAnswer (n, BA T) = some (raR (rdA n T), ()) := by
  obtain ⟨l0, l1, l2⟩ := q_le T
  have hm : maxLen = 9223372036854775807 := by decide
  show f_iReadAnswer BIG _ = _
  have r0 : g_ireader_num (BA T, (0 : Int), false) = some ((q0 T).1, (BA T, ((q0 T).2.1 : Int), (q0 T).2.2)) := w_ireader_num T (0, false) (Nat.zero_le _) (by omega)
  have r1 : g_ireader_one (BA T, ((q0 T).2.1 : Int), (q0 T).2.2) = some ((q1 T).1, (BA T, ((q1 T).2.1 : Int), (q1 T).2.2)) := w_ireader_one T (q0 T).2 l0 (by omega)
  have r3 : g_ireader_edges (BA T, ((q1 T).2.1 : Int), (q1 T).2.2) = some ((q4 T (nm T (q1 T).2).1.toNat).2, (BA T, ((q4 T (nm T (q1 T).2).1.toNat).1.1 : Int), (q4 T (nm T (q1 T).2).1.toNat).1.2)) := w_ireader_edges T (q1 T).2 l1 (by omega)
  rw [e_iReadAnswer, h_iin', Option.bind_some]
  unfold rdA
  cases hn : inB n 1 12 with
  | false => rfl
  | true =>
    rw [inB_t] at hn
    obtain ⟨N, rfl⟩ : ∃ N : Nat, n = N := ⟨n.toNat, by omega⟩
    simp only [Bool.not_true, cond_false, r0, r1, r3, Option.bind_some, Int.toNat_natCast]
    generalize hK : (nm T (q1 T).2).1.toNat = K
    have hle : (q4 T K).1.1 ≤ T.length := by
      have := (edF_spec T K (nm T (q1 T).2).2 [] (nm_le l1)).1
      exact this
    rw [foldG (List.range N) (by simp; omega) (fun (s : St × List Int) i => ((BA T, (s.1.1 : Int), s.1.2), ((q0 T).1, decide ((q1 T).1 = 1), (q4 T K).2, s.2), i)) (fun i s => s.1.1 ≤ T.length ∧ s.2.length = i)
      (fun s _ => ((on T s.1).2, s.2 ++ [(on T s.1).1])) (fun s => ((BA T, (s.1.1 : Int), s.1.2), ((q0 T).1, decide ((q1 T).1 = 1), (q4 T K).2, s.2))) (s0 := ((q4 T K).1, [])) ⟨hle, rfl⟩ (fun i s y _ h => ⟨on_le h.1, by simp [h.2]⟩)]
    · rw [lbF_fold, List.length_range]
      have he : ∀ p b, g_ireader_ends (BA T, p, b) = some (!b && decide (p = (T.length : Int)), (BA T, p, b)) := by
        intro p b
        show f_ireader_ends BIG _ = _
        rw [e_ireader_ends]
        cases b <;> rfl
      simp only [Option.bind_some, he]
      show (Option.bind (bif decide ((1 : Int) < (q1 T).1) then some true else bif !(!(q5 T K N).1.2 && decide (((q5 T K N).1.1 : Int) = (T.length : Int))) then some true else Option.bind (g_iAnswerOk ((N : Int), aQ T K (q5 T K N).2)) fun r9 => some !r9.1 : Option Bool) fun x10 =>
        bif x10 then some (((0 : Int), false, [], [], false), ()) else some (((q0 T).1, decide ((q1 T).1 = 1), (q4 T K).2, (q5 T K N).2, true), ())) = _
      by_cases hb1 : (q1 T).1 ≤ 1
      · rw [decide_eq_false (by omega), cond_false]
        cases hb : (q5 T K N).1.2 with
        | true => simp [raR]
        | false =>
          by_cases hp : (q5 T K N).1.1 = T.length
          · have hq := aQ_take hK.symm hb
            have hlen : (q4 T K).2.length ≤ 1048576 := by
              have h1 := congrArg List.length hq.2.2.2.1
              rw [List.length_take] at h1
              simp only [eT, List.length_append, flat2_len] at h1
              omega
            rw [h_iAnswerOk (N : Int) (aQ T K (q5 T K N).2) hlen (show (q5 T K N).2.length ≤ 1048576 by rw [hq.2.1]; omega)]
            simp only [hp, decide_true, Bool.not_false, Bool.and_self, Bool.not_true, cond_false, Option.bind_some, true_and, hb1]
            cases hO : ansB (N : Int) (aQ T K (q5 T K N).2) with
            | false => simp [raR]
            | true => simp only [and_self, if_true, Bool.not_true, cond_false]; rfl
          · have : decide (((q5 T K N).1.1 : Int) = (T.length : Int)) = false := decide_eq_false (by omega)
            simp [this, hp, raR]
      · rw [decide_eq_true (by omega)]
        simp [hb1, raR]
    · rintro self ⟨s, out⟩ i y hy ⟨h1, h2⟩
      have hi := (List.getElem?_eq_some_iff.1 hy).1
      rw [List.length_range] at hi
      simp only at h1 h2
      simp only [show ((i : Int) < (N : Int)) from by omega, decide_true, cond_true]
      rw [w_ireader_one T s h1 (by omega), Option.bind_some, decide_eq_true (by simp; omega), cond_true, wr1 (by omega)]
    · intro self s _
      simp
theorem w_sReadAnswer (n : Int) (T : List UInt8) (hl : T.length ≤ 1048576) : g_sReadAnswer (n, BA T) = some (raR (rdA n T), ()) := by
  obtain ⟨l0, l1, l2⟩ := q_le T
  have hm : maxLen = 9223372036854775807 := by decide
  show f_sReadAnswer BIG _ = _
  have r0 : g_sl09Var (BA T, (0 : Int), false) = some ((q0 T).1, (BA T, ((q0 T).2.1 : Int), (q0 T).2.2)) := w_sl09Var T (0, false) (Nat.zero_le _) (by omega)
  have r1 : g_sl09One (BA T, ((q0 T).2.1 : Int), (q0 T).2.2) = some ((q1 T).1, (BA T, ((q1 T).2.1 : Int), (q1 T).2.2)) := w_sl09One T (q0 T).2 l0 (by omega)
  have r3 : g_sl09ReadEdges (BA T, ((q1 T).2.1 : Int), (q1 T).2.2) = some ((q4 T (min (nm T (q1 T).2).1.toNat 100)).2, (BA T, ((q4 T (min (nm T (q1 T).2).1.toNat 100)).1.1 : Int), (q4 T (min (nm T (q1 T).2).1.toNat 100)).1.2)) := w_sl09ReadEdges T (q1 T).2 l1 (by omega)
  rw [e_sReadAnswer, r0, Option.bind_some]
  simp only [r1, r3, Option.bind_some]
  unfold rdA
  simp only
  generalize hK : (nm T (q1 T).2).1.toNat = K
  generalize hK' : min K 100 = K'
  generalize hM : min n.toNat 12 = M
  have hle : (q4 T K').1.1 ≤ T.length := by
    have := (edF_spec T K' (nm T (q1 T).2).2 [] (nm_le l1)).1
    exact this
  have L := lbLoop T (F := fun self4 x3 =>
    Option.bind (bif decide (x3.2.2 < n) then
      bif decide (x3.2.2 < (12 : Int)) then
       some !x3.1.2.2
      else some false
     else some false : Option (Bool)) fun x5 =>
    bif x5 then
     Option.bind (g_sl09One x3.1) fun r6 =>
     bif decide (x3.2.1.2.2.2.length + [r6.1].length ≤ 4294967296) then
      self4 (r6.2, (x3.2.1.1, x3.2.1.2.1, x3.2.1.2.2.1, x3.2.1.2.2.2 ++ [r6.1]), IntKind.wrap .i64 (x3.2.2 + (1 : Int)))
     else none
    else some (x3.1, x3.2.1)) (fun s out k => ((BA T, (s.1 : Int), s.2), ((q0 T).1, decide ((q1 T).1 = 1), (q4 T K').2, out), (M : Int) - (k : Int))) (fun s out => ((BA T, (s.1 : Int), s.2), ((q0 T).1, decide ((q1 T).1 = 1), (q4 T K').2, out))) M (by
    intro self s out k hs ho
    simp only [show (M : Int) - ((k + 1 : Nat) : Int) < n from by omega, show (M : Int) - ((k + 1 : Nat) : Int) < 12 from by omega, decide_true, cond_true, Option.bind_some]
    cases hb : s.2 with
    | true => rfl
    | false =>
      simp only [Bool.not_false, cond_true, Bool.false_eq_true, if_false]
      rw [← hb, w_sl09One T s hs (by omega), Option.bind_some, decide_eq_true (by simp; omega), cond_true, wr (by omega) (by omega), show (M : Int) - ((k + 1 : Nat) : Int) + 1 = (M : Int) - (k : Int) from by omega]) (by
    intro self s out
    simp only [Int.natCast_zero, Int.sub_zero]
    by_cases h : (M : Int) < n
    · rw [decide_eq_true h, cond_true, decide_eq_false (by omega)]; rfl
    · rw [decide_eq_false h]; rfl) M BIG (q4 T K').1 [] (by simp) (by simp [BIG]; omega) hle
  rw [show (M : Int) - (M : Int) = 0 from by omega] at L
  unfold loopT
  rw [L, Option.bind_some]
  have hlab := lbG_len T M (q4 T K').1 []
  have hed := edF_len T K' (nm T (q1 T).2).2 []
  have hed' : (q4 T K').2.length ≤ 100 := by
    have : (q4 T K').2.length ≤ 0 + K' := hed
    omega
  generalize hG : lbG T M (q4 T K').1 [] = G at hlab
  simp only [List.length_nil] at hlab
  show (Option.bind (g_sAnswerText (n, aQ T K' G.2)) fun r8 => Option.bind (bif G.1.2 then some true else bif !r8.1.2 then some true else some (!(r8.1.1.toList == (BA T).toList)) : Option Bool) fun x9 =>
    bif x9 then some (((0 : Int), false, [], [], false), ()) else some (((q0 T).1, decide ((q1 T).1 = 1), (q4 T K').2, G.2, true), ())) = _
  rw [w_sAnswerText n (aQ T K' G.2) (show (q4 T K').2.length ≤ 1048576 by omega) (show G.2.length ≤ 1048576 by omega), Option.bind_some]
  have fail : (G.1.2 = true ∨ ansB n (aQ T K' G.2) = false) → (Option.bind (bif G.1.2 then some true else bif !(if ansB n (aQ T K' G.2) = true then (BA (aT (aQ T K' G.2)), true) else (BA [], false)).2 then some true else some (!((if ansB n (aQ T K' G.2) = true then (BA (aT (aQ T K' G.2)), true) else (BA [], false)).1.toList == (BA T).toList)) : Option Bool) fun x9 =>
    bif x9 then some (((0 : Int), false, [], [], false), ()) else some (((q0 T).1, decide ((q1 T).1 = 1), (q4 T K').2, G.2, true), ())) = some (raR none, ()) := by
    rintro (h | h)
    · rw [h]; rfl
    · rw [h]
      cases G.1.2 <;> rfl
  cases hn : inB n 1 12 with
  | false =>
    rw [fail (.inr (by unfold ansB; rw [hn, Bool.false_and])), if_neg (by simp)]
  | true =>
    rw [inB_t] at hn
    obtain ⟨N, rfl⟩ : ∃ N : Nat, n = N := ⟨n.toNat, by omega⟩
    rw [Int.toNat_natCast] at hM ⊢
    have hMN : M = N := by omega
    subst hMN
    have hbig : ∀ L', 66 < (q4 T K').2.length → ansB (M : Int) (aQ T K' L') = false := by
      intro L' h
      cases hO : ansB (M : Int) (aQ T K' L') with
      | false => rfl
      | true =>
        have := eOk_len (ansB_in hO).2.2.2.2.1
        have h2 : (aQ T K' L').2.2.1 = (q4 T K').2 := rfl
        rw [h2] at this
        omega
    obtain ⟨g1, g2⟩ := lbG_of T M (q4 T K').1 []
    by_cases hk : K ≤ 100
    · have : K' = K := by omega
      subst this
      cases hb : (q5 T K' M).1.2 with
      | true =>
        have hGb : G.1.2 = true := by rw [← hG]; exact g2 hb
        rw [fail (.inl hGb), if_neg (by simp)]
      | false =>
        have hGe : G = q5 T K' M := by rw [← hG]; exact g1 hb
        have hq := aQ_take hK.symm hb
        cases hO : ansB (M : Int) (aQ T K' (q5 T K' M).2) with
        | false => rw [fail (.inr (by rw [hGe]; exact hO)), if_neg (by simp)]
        | true =>
          have e1 : (aT (aQ T K' (q5 T K' M).2) = T) ↔ ((q5 T K' M).1.1 = T.length ∧ (q1 T).1 ≤ 1) := by
            constructor
            · intro h
              have hlen := congrArg List.length h
              have hlen2 := congrArg List.length hq.2.2.2.1
              rw [List.length_take] at hlen2
              have hlen3 : (aT (aQ T K' (q5 T K' M).2)).length = (((vB (q0 T).1.toNat ++ [by8 (q1 T).1]) ++ eT (q4 T K').2) ++ (q5 T K' M).2.map by8).length := by
                simp [aT, aQ, flT]
              have hp : (q5 T K' M).1.1 = T.length := by omega
              refine ⟨hp, (by8_01 hq.2.2.1.1 hq.2.2.1.2).1 ⟨decide ((q1 T).1 = 1), ?_⟩⟩
              have h4 := hq.2.2.2.1
              rw [hp, List.take_length] at h4
              have h5 : ((vB (q0 T).1.toNat ++ flT (decide ((q1 T).1 = 1))) ++ eT (q4 T K').2) ++ (q5 T K' M).2.map by8 = ((vB (q0 T).1.toNat ++ [by8 (q1 T).1]) ++ eT (q4 T K').2) ++ (q5 T K' M).2.map by8 := h.trans h4
              exact List.append_cancel_left (List.append_cancel_right (List.append_cancel_right h5))
            · rintro ⟨hp, h1⟩
              have h4 := hq.2.2.2.1
              rw [hp, List.take_length, ← flT_1 hq.2.2.1.1 h1] at h4
              exact h4.symm
          rw [hGe, hb, hO]
          simp only [cond_false, if_true, Bool.not_true, BA_toList, Option.bind_some]
          by_cases hT : aT (aQ T K' (q5 T K' M).2) = T
          · have := e1.1 hT
            rw [hT, beq_self_eq_true, if_pos (by simp [this.1, this.2])]
            rfl
          · rw [beq_eq_false_iff_ne.2 hT, if_neg (fun h => hT (e1.2 ⟨h.2.2.1, h.2.2.2.1⟩))]
            rfl
    · have hK100 : K' = 100 := by omega
      subst hK100
      have e2 : ¬ (true = true ∧ (q5 T K M).1.2 = false ∧ (q5 T K M).1.1 = T.length ∧ (q1 T).1 ≤ 1 ∧ ansB (M : Int) (aQ T K (q5 T K M).2) = true) := by
        rintro ⟨_, hb, _, _, hO⟩
        have hq := aQ_take hK.symm hb
        have := eOk_len (ansB_in hO).2.2.2.2.1
        have h2 : (aQ T K (q5 T K M).2).2.2.1 = (q4 T K).2 := rfl
        rw [h2, hq.1] at this
        omega
      rw [if_neg e2]
      apply fail
      cases hGb : G.1.2 with
      | true => exact .inl rfl
      | false =>
        right
        apply hbig
        have hb5 : (lbF T M (q4 T 100).1 []).1.2 = false := by
          cases h : (lbF T M (q4 T 100).1 []).1.2 with
          | false => rfl
          | true => rw [← hG, g2 h] at hGb; cases hGb
        obtain ⟨hb4, _⟩ := lbF_spec T M (q4 T 100).1 [] hb5
        obtain ⟨_, h2⟩ := edF_spec T 100 (nm T (q1 T).2).2 [] (nm_le l1)
        obtain ⟨_, es, b2, b3, _⟩ := h2 hb4
        show 66 < (edF T 100 (nm T (q1 T).2).2 []).2.length
        rw [b2]; simp [b3]
theorem h_sl05SameEdges (a b : List Ed) (ha : a.length ≤ maxLen) : g_sl05SameEdges (a, b) = some (decide (a = b), ()) := by
  show f_sl05SameEdges BIG _ = _
  rw [e_sl05SameEdges]
  by_cases hl : a.length = b.length
  · rw [decide_eq_true (by omega), Bool.not_true, cond_false, eqLoop a b ha hl false]
    · by_cases h : a = b <;> simp [h]
    · intro self i x y hx hy
      have hi := (List.getElem?_eq_some_iff.1 hx).1
      simp only [show ((i : Int) < (a.length : Int)) from by omega, decide_true, cond_true]
      rw [bnd_nat hi, hx, Option.bind_some, bnd_nat (by omega), hy, Option.bind_some, wr1 (by omega)]
      obtain ⟨x1, x2⟩ := x
      obtain ⟨y1, y2⟩ := y
      by_cases h1 : x1 = y1 <;> by_cases h2 : x2 = y2 <;> simp [h1, h2]
    · intro self
      simp
  · rw [decide_eq_false (by omega), Bool.not_false, cond_true, decide_eq_false (fun h => hl (by rw [h]))]
theorem h_sl05SameInts (a b : List Int) (ha : a.length ≤ maxLen) : g_sl05SameInts (a, b) = some (decide (a = b), ()) := by
  show f_sl05SameInts BIG _ = _
  rw [e_sl05SameInts]
  by_cases hl : a.length = b.length
  · rw [decide_eq_true (by omega), Bool.not_true, cond_false, eqLoop a b ha hl false]
    · by_cases h : a = b <;> simp [h]
    · intro self i x y hx hy
      have hi := (List.getElem?_eq_some_iff.1 hx).1
      simp only [show ((i : Int) < (a.length : Int)) from by omega, decide_true, cond_true]
      rw [bnd_nat hi, hx, Option.bind_some, bnd_nat (by omega), hy, Option.bind_some, wr1 (by omega)]
      by_cases h1 : x = y <;> simp [h1]
    · intro self
      simp
  · rw [decide_eq_false (by omega), Bool.not_false, cond_true, decide_eq_false (fun h => hl (by rw [h]))]
def blA (a : An) : Bool := decide (a.1 = 0) && (!a.2.1 && (decide (a.2.2.1.length = 0) && decide (a.2.2.2.length = 0)))
def blO (o : Or') : Bool := decide (o.1 = 0) && (decide (o.2.1 = 0) && (decide (o.2.2.1.length = 0) && decide (o.2.2.2 = 0)))
def blQ (a b c d : Int) : Bool := decide (a = 0) && (decide (b = 0) && (decide (c = 0) && decide (d = 0)))
theorem len0 {α : Type} (l : List α) : decide ((l.length : Int) = 0) = decide (l.length = 0) := decide_eq_decide.2 (by omega)
theorem h_inoAnswer (a : An) : g_inoAnswer a = some (blA a, ()) := by
  show f_inoAnswer BIG _ = _
  rw [e_inoAnswer, len0, len0]
  unfold blA
  cases decide (a.1 = 0) <;> cases a.2.1 <;> cases decide (a.2.2.1.length = 0) <;> rfl
theorem h_inoOrder (o : Or') : g_inoOrder o = some (blO o, ()) := by
  show f_inoOrder BIG _ = _
  rw [e_inoOrder, len0]
  unfold blO
  cases decide (o.1 = 0) <;> cases decide (o.2.1 = 0) <;> cases decide (o.2.2.1.length = 0) <;> rfl
theorem nil_dec {α : Type} [DecidableEq α] (l : List α) : decide (l = []) = decide (l.length = 0) := decide_eq_decide.2 List.length_eq_zero_iff.symm
theorem h_sl10Blank (a : An) (h1 : a.2.2.1.length ≤ maxLen) (h2 : a.2.2.2.length ≤ maxLen) : g_sl10Blank a = some (blA a, ()) := by
  show f_sl10Blank BIG _ = _
  rw [e_sl10Blank]
  have : g_sl09SameAnswer (a, ((0 : Int), false, [], [])) = f_sl09SameAnswer BIG (a, ((0 : Int), false, [], [])) := rfl
  rw [this, e_sl09SameAnswer]
  dsimp only
  rw [h_sl05SameEdges _ _ h1, h_sl05SameInts _ _ h2, nil_dec, nil_dec]
  unfold blA
  cases decide (a.1 = 0) <;> cases a.2.1 <;> cases decide (a.2.2.1.length = 0) <;> rfl
theorem h_sl13BlankOrder (o : Or') (h1 : o.2.2.1.length ≤ maxLen) : g_sl13BlankOrder o = some (blO o, ()) := by
  show f_sl13BlankOrder BIG _ = _
  rw [e_sl13BlankOrder]
  have : g_sl09SameOrder (o, ((0 : Int), (0 : Int), [], (0 : Int))) = f_sl09SameOrder BIG (o, ((0 : Int), (0 : Int), [], (0 : Int))) := rfl
  rw [this, e_sl09SameOrder]
  dsimp only
  rw [h_sl05SameEdges _ _ h1, nil_dec]
  unfold blO
  cases decide (o.1 = 0) <;> cases decide (o.2.1 = 0) <;> cases decide (o.2.2.1.length = 0) <;> cases decide (o.2.2.2 = 0) <;> rfl
theorem h_sl13BlankAsk (a b c d : Int) : g_sl13BlankAsk (a, b, c, d) = some (blQ a b c d, ()) := by
  show f_sl13BlankAsk BIG _ = _
  rw [e_sl13BlankAsk]
  unfold blQ
  simp only [Bool.and_true]
def stA (s : List UInt8) (y : Int) : Option (List UInt8) := if inB y 0 100000 then some (s ++ vB y.toNat) else none
theorem h_iaskText (a b c d : Int) : g_iaskText (a, b, c, d) = some (match fM stA [] [a, b, c, d] with | some s => (BA s, true) | none => (BA [], false), ()) := by
  have hm : maxLen = 9223372036854775807 := by decide
  show f_iaskText BIG _ = _
  rw [e_iaskText]
  dsimp only
  have h5 : ∀ y : Int, inB y 0 100000 = true → (vB y.toNat).length ≤ 5 := fun y hy => vB_len (by rw [inB_t] at hy; omega)
  have L := exitG [a, b, c, d] (by simp) (F := fun self1 x0 =>
    bif decide (x0.2 < (([a, b, c, d]).length : Int)) then
     bnd ([a, b, c, d]).length x0.2 fun n2 =>
     Option.bind ([a, b, c, d])[n2]? fun y3 =>
     Option.bind (g_iin (y3, (0 : Int), (100000 : Int))) fun r4 =>
     bif !r4.1 then
      some (Sum.inr ((ByteArray.mk #[]), false))
     else Option.bind (g_iVarText y3) fun r5 =>
     bif decide (x0.1.size + r5.1.1.size ≤ 4611686018427387904) then
      self1 (x0.1 ++ r5.1.1, IntKind.wrap .i64 (x0.2 + (1 : Int)))
     else none
    else some (Sum.inl x0.1)) (fun (s : List UInt8) i => (BA s, i)) (fun i s => s.length ≤ 5 * i) stA BA ((ByteArray.mk #[]), false) (s0 := []) (by simp) (fun i s s' y _ h hs => by
      unfold stA at hs
      split at hs
      · rename_i hy
        cases hs
        have := h5 y hy
        simp; omega
      · cases hs) (by
    intro self s i y hy hs
    have hi := (List.getElem?_eq_some_iff.1 hy).1
    have hi4 : i < 4 := hi
    simp only [show ((i : Int) < (([a, b, c, d]).length : Int)) from by omega, decide_true, cond_true]
    rw [bnd_nat hi, hy, Option.bind_some, h_iin', Option.bind_some, wr1 (by omega)]
    unfold stA
    cases hb : inB y 0 100000 with
    | false => rfl
    | true =>
      have := h5 y hb
      rw [inB_t] at hb
      simp only [Bool.not_true, cond_false, if_true, w_iVarText, Option.bind_some]
      rw [show inB y 0 1000000000 = true from inB_t.2 (by omega), if_pos rfl, BA_app, BA_size, BA_size, decide_eq_true (by omega)]
      rfl) (by
    intro self s _
    simp)
  have L' : loopT BIG _ ((ByteArray.mk #[]), (0 : Int)) = _ := L
  rw [L']
  cases fM stA [] [a, b, c, d] <;> rfl
theorem stA_all (a b c d : Int) : fM stA [] [a, b, c, d] = if inB a 0 100000 && (inB b 0 100000 && (inB c 0 100000 && inB d 0 100000)) then some (((vB a.toNat ++ vB b.toNat) ++ vB c.toNat) ++ vB d.toNat) else none := by
  simp only [fM, stA]
  cases inB a 0 100000 <;> cases inB b 0 100000 <;> cases inB c 0 100000 <;> cases inB d 0 100000 <;> simp
abbrev Rc := Int × Int × Int × Int × Int × Int × Int × Bool × List (Int × Int) × List Int × Int × Int × List (Int × Int) × Int
/-- A record's bytes. -/
def rcT (n : Int) (r : Rc) : Option (List UInt8) :=
  let an : An := (r.2.2.2.2.2.2.1, r.2.2.2.2.2.2.2.1, r.2.2.2.2.2.2.2.2.1, r.2.2.2.2.2.2.2.2.2.1)
  let o : Or' := r.2.2.2.2.2.2.2.2.2.2
  let sh := r.2.2.2.2.2.1
  if r.1 = 1 then
    if (decide (sh = 0) && (blA an && blO o)) && (inB r.2.1 0 100000 && (inB r.2.2.1 0 100000 && (inB r.2.2.2.1 0 100000 && inB r.2.2.2.2.1 0 100000))) then
      some ([1] ++ (((vB r.2.1.toNat ++ vB r.2.2.1.toNat) ++ vB r.2.2.2.1.toNat) ++ vB r.2.2.2.2.1.toNat)) else none
  else if r.1 = 2 then
    if (blQ r.2.1 r.2.2.1 r.2.2.2.1 r.2.2.2.2.1 && (blO o && inB sh 0 100000)) && ansB n an then some ([2] ++ (vB sh.toNat ++ (vB (aT an).length ++ aT an))) else none
  else if r.1 = 3 then
    if (blQ r.2.1 r.2.2.1 r.2.2.2.1 r.2.2.2.2.1 && (decide (sh = 0) && blA an)) && ordB n o then some ([3] ++ (vB (oT o).length ++ oT o)) else none
  else none
def rcR : Option (List UInt8) → ByteArray × Bool
  | some s => (BA s, true)
  | none => (BA [], false)
theorem h_iShortText (s : List UInt8) (h : s.length ≤ 300) : g_iShortText (BA s) = some ((BA (vB s.length ++ s), true), ()) := by
  show f_iShortText BIG _ = _
  have := vB_len (v := s.length) (by omega)
  rw [e_iShortText, BA_size, decide_eq_false (by omega), cond_false, w_iVarText, show inB (s.length : Int) 0 1000000000 = true from inB_t.2 (by omega), if_pos rfl, Option.bind_some, Int.toNat_natCast]
  simp only [BA_size, BA_app]
  rw [decide_eq_true (by omega)]; rfl
theorem askEq (a b c d : Int) : (decide (a = 0) && (decide (b = 0) && (decide (c = 0) && (decide (d = 0) && true)))) = blQ a b c d := by simp [blQ]
theorem rcT_len {n : Int} {r : Rc} {s : List UInt8} (h : rcT n r = some s) : 1 ≤ s.length ∧ s.length ≤ 400 := by
  unfold rcT at h
  simp only at h
  split at h
  · split at h
    · rename_i hc
      cases h
      simp only [Bool.and_eq_true, inB_t] at hc
      have h1 := vB_len (v := r.2.1.toNat) (by omega)
      have h2 := vB_len (v := r.2.2.1.toNat) (by omega)
      have h3 := vB_len (v := r.2.2.2.1.toNat) (by omega)
      have h4 := vB_len (v := r.2.2.2.2.1.toNat) (by omega)
      simp only [List.length_append, List.length_cons, List.length_nil]; omega
    · cases h
  · split at h
    · split at h
      · rename_i hc
        cases h
        simp only [Bool.and_eq_true, inB_t] at hc
        have h1 := aT_len hc.2
        have h2 := vB_len (v := r.2.2.2.2.2.1.toNat) (by omega)
        have h3 := vB_len (v := (aT (r.2.2.2.2.2.2.1, r.2.2.2.2.2.2.2.1, r.2.2.2.2.2.2.2.2.1, r.2.2.2.2.2.2.2.2.2.1)).length) (by omega)
        simp only [List.length_append, List.length_cons, List.length_nil]; omega
      · cases h
    · split at h
      · split at h
        · rename_i hc
          cases h
          simp only [Bool.and_eq_true, inB_t] at hc
          have h1 := oT_len hc.2
          have h3 := vB_len (v := (oT r.2.2.2.2.2.2.2.2.2.2).length) (by omega)
          simp only [List.length_append, List.length_cons, List.length_nil]; omega
        · cases h
      · cases h
theorem w_iRecText (n : Int) (r : Rc) (h1 : r.2.2.2.2.2.2.2.2.1.length ≤ 1048576) (h2 : r.2.2.2.2.2.2.2.2.2.1.length ≤ 1048576) (h3 : r.2.2.2.2.2.2.2.2.2.2.2.2.1.length ≤ 1048576) : g_iRecText (n, r) = some (rcR (rcT n r), ()) := by
  obtain ⟨k, a, b, c, d, sh, an0, an1, an2, an3, o⟩ := r
  simp only at h1 h2 h3
  show f_iRecText BIG _ = _
  rw [e_iRecText]
  dsimp only
  rw [h_inoAnswer (an0, an1, an2, an3), h_inoOrder o, h_iaskText, h_iin', askEq, stA_all]
  have w1 := w_iAnswerText n (an0, an1, an2, an3) h1 h2
  have w2 := w_iOrderText n o h3
  rw [w1, w2]
  have hl := @rcT_len n (k, a, b, c, d, sh, an0, an1, an2, an3, o)
  unfold rcT at hl ⊢
  simp only at hl ⊢
  simp only [Option.bind_some]
  by_cases k1 : k = 1
  · subst k1
    simp only [decide_true, cond_true, if_true] at hl ⊢
    rw [by_1]
    cases hs : decide (sh = 0) with
    | false => simp [rcR] <;> rfl
    | true =>
      cases hA : blA (an0, an1, an2, an3) with
      | false => simp [rcR] <;> rfl
      | true =>
        cases hO : blO o with
        | false => simp [rcR] <;> rfl
        | true =>
          cases hq : (inB a 0 100000 && (inB b 0 100000 && (inB c 0 100000 && inB d 0 100000))) with
          | false => simp [rcR] <;> rfl
          | true =>
            rw [hs, hA, hO, hq] at hl
            have := hl rfl
            simp only [cond_true, if_true, Option.bind_some, Bool.not_true, cond_false, Bool.and_self]
            rw [BA_app, BA_size, BA_size, decide_eq_true (by simp only [List.length_append, List.length_cons, List.length_nil] at this ⊢; omega)]
            rfl
  · simp only [k1, decide_false, cond_false, if_false, Option.bind_some] at hl ⊢
    by_cases k2 : k = 2
    · subst k2
      simp only [decide_true, cond_true, if_true] at hl ⊢
      rw [by_1]
      cases hQ : blQ a b c d with
      | false => simp [rcR] <;> rfl
      | true =>
        cases hO : blO o with
        | false => simp [rcR] <;> rfl
        | true =>
          cases hs : inB sh 0 100000 with
          | false => simp [rcR] <;> rfl
          | true =>
            cases hA : ansB n (an0, an1, an2, an3) with
            | false =>
              simp only [cond_true, Option.bind_some, if_false, Bool.false_eq_true, h_iShortText [] (by simp), w_iVarText, BA_size, Bool.and_false]
              rw [inB_t] at hs
              rw [show inB sh 0 1000000000 = true from inB_t.2 (by omega), if_pos rfl]
              have := vB_len (v := sh.toNat) (by omega)
              simp only [BA_app, BA_size]
              rw [decide_eq_true (by simp [vB_lo]; omega)]
              simp [rcR] <;> rfl
            | true =>
              rw [hQ, hO, hs, hA] at hl
              have := hl rfl
              have hal := aT_len hA
              rw [inB_t] at hs
              simp only [cond_true, Option.bind_some, if_true, h_iShortText _ hal, w_iVarText, Bool.and_self]
              rw [show inB sh 0 1000000000 = true from inB_t.2 (by omega), if_pos rfl]
              simp only [BA_app, BA_size, List.length_append, List.length_cons, List.length_nil] at this ⊢
              rw [decide_eq_true (by omega)]
              simp only [cond_true, Option.bind_some, Bool.not_true, cond_false, BA_size, BA_app, List.length_append, List.length_cons, List.length_nil]
              rw [decide_eq_true (by omega)]
              rfl
    · simp only [k2, decide_false, cond_false, if_false, Option.bind_some] at hl ⊢
      by_cases k3 : k = 3
      · subst k3
        simp only [decide_true, cond_true, if_true] at hl ⊢
        rw [by_1]
        cases hQ : blQ a b c d with
        | false => simp [rcR] <;> rfl
        | true =>
          cases hs : decide (sh = 0) with
          | false => simp [rcR] <;> rfl
          | true =>
            cases hA : blA (an0, an1, an2, an3) with
            | false => simp [rcR] <;> rfl
            | true =>
              cases hO : ordB n o with
              | false =>
                simp only [cond_true, Option.bind_some, if_false, Bool.false_eq_true, h_iShortText [] (by simp), Bool.and_false]
                simp [rcR] <;> rfl
              | true =>
                rw [hQ, hs, hA, hO] at hl
                have := hl rfl
                have hal := oT_len hO
                simp only [cond_true, Option.bind_some, if_true, h_iShortText _ hal, Bool.and_self, Bool.not_true, cond_false, BA_size, BA_app, List.length_append, List.length_cons, List.length_nil] at this ⊢
                rw [decide_eq_true (by omega)]
                rfl
      · simp only [k3, decide_false, cond_false, if_false, Option.bind_some]
        rfl
theorem bk1 : ByteArray.mk #[1] = BA [1] := by rfl
theorem bk2 : ByteArray.mk #[2] = BA [2] := by rfl
theorem bk3 : ByteArray.mk #[3] = BA [3] := by rfl
theorem w_sRecText (n : Int) (r : Rc) (h1 : r.2.2.2.2.2.2.2.2.1.length ≤ 1048576) (h2 : r.2.2.2.2.2.2.2.2.2.1.length ≤ 1048576) (h3 : r.2.2.2.2.2.2.2.2.2.2.2.2.1.length ≤ 1048576) : g_sRecText (n, r) = some (rcR (rcT n r), ()) := by
  obtain ⟨k, a, b, c, d, sh, an0, an1, an2, an3, o⟩ := r
  simp only at h1 h2 h3
  have hm : maxLen = 9223372036854775807 := by decide
  show f_sRecText BIG _ = _
  rw [e_sRecText]
  dsimp only
  simp only [bk1, bk2, bk3]
  rw [h_sl10Blank (an0, an1, an2, an3) (by simp only; omega) (by simp only; omega), h_sl13BlankOrder o (by omega), h_sl13BlankAsk]
  simp only [h_sl01In']
  rw [w_sAnswerText n (an0, an1, an2, an3) h1 h2, w_sOrderText n o h3]
  unfold rcT
  simp only [Option.bind_some]
  by_cases k1 : k = 1
  · subst k1
    simp only [decide_true, cond_true, if_true]
    cases hs : decide (sh = 0) with
    | false => simp [rcR] <;> rfl
    | true =>
      cases hA : blA (an0, an1, an2, an3) with
      | false => simp [rcR] <;> rfl
      | true =>
        cases hO : blO o with
        | false => simp [rcR] <;> rfl
        | true =>
          cases qa : inB a 0 100000 with
          | false => simp [rcR] <;> rfl
          | true =>
            cases qb : inB b 0 100000 with
            | false => simp [rcR] <;> rfl
            | true =>
              cases qc : inB c 0 100000 with
              | false => simp [rcR] <;> rfl
              | true =>
                cases qd : inB d 0 100000 with
                | false => simp [rcR] <;> rfl
                | true =>
                  rw [inB_t] at qa qb qc qd
                  have wa := w_sl01Var a.toNat (by omega)
                  have wb := w_sl01Var b.toNat (by omega)
                  have wc := w_sl01Var c.toNat (by omega)
                  have wd := w_sl01Var d.toNat (by omega)
                  rw [Int.toNat_of_nonneg (by omega)] at wa wb wc wd
                  have la := vB_len (v := a.toNat) (by omega)
                  have lb := vB_len (v := b.toNat) (by omega)
                  have lc := vB_len (v := c.toNat) (by omega)
                  have ld := vB_len (v := d.toNat) (by omega)
                  simp only [cond_true, if_true, Option.bind_some, Bool.not_true, cond_false, Bool.and_self, wa, wb, wc, wd, by_1, BA_app, BA_size, List.length_append, List.length_cons, List.length_nil]
                  rw [decide_eq_true (by omega), decide_eq_true (by omega), decide_eq_true (by omega), decide_eq_true (by omega)]
                  simp [rcR]
  · simp only [k1, decide_false, cond_false, if_false, Option.bind_some]
    by_cases k2 : k = 2
    · subst k2
      simp only [decide_true, cond_true, if_true]
      cases hQ : blQ a b c d with
      | false => cases hA : ansB n (an0, an1, an2, an3) <;> simp [rcR] <;> rfl
      | true =>
        cases hO : blO o with
        | false => cases hA : ansB n (an0, an1, an2, an3) <;> simp [rcR] <;> rfl
        | true =>
          cases hs : inB sh 0 100000 with
          | false => cases hA : ansB n (an0, an1, an2, an3) <;> simp [rcR] <;> rfl
          | true =>
            cases hA : ansB n (an0, an1, an2, an3) with
            | false => simp [rcR] <;> rfl
            | true =>
              have hal := aT_len hA
              rw [inB_t] at hs
              have wa := w_sl01Var sh.toNat (by omega)
              rw [Int.toNat_of_nonneg (by omega)] at wa
              have wb := w_sl01Var (aT (an0, an1, an2, an3)).length (by omega)
              have la := vB_len (v := sh.toNat) (by omega)
              have lb := vB_len (v := (aT (an0, an1, an2, an3)).length) (by omega)
              simp only [cond_true, if_true, Option.bind_some, Bool.not_true, cond_false, Bool.and_self, wa, wb, by_1, BA_app, BA_size, List.length_append, List.length_cons, List.length_nil]
              rw [decide_eq_true (by omega), decide_eq_true (by omega), decide_eq_true (by omega)]
              simp [rcR]
    · simp only [k2, decide_false, cond_false, if_false, Option.bind_some]
      by_cases k3 : k = 3
      · subst k3
        simp only [decide_true, cond_true, if_true]
        cases hO : ordB n o with
        | false => simp [rcR] <;> rfl
        | true =>
          cases hQ : blQ a b c d with
          | false => simp [rcR] <;> rfl
          | true =>
            cases hA : blA (an0, an1, an2, an3) with
            | false => simp [rcR] <;> rfl
            | true =>
              cases hs : decide (sh = 0) with
              | false => simp [rcR] <;> rfl
              | true =>
                have hal := oT_len hO
                have wb := w_sl01Var (oT o).length (by omega)
                have lb := vB_len (v := (oT o).length) (by omega)
                simp only [cond_true, if_true, Option.bind_some, Bool.not_true, cond_false, Bool.and_self, wb, by_1, BA_app, BA_size, List.length_append, List.length_cons, List.length_nil]
                rw [decide_eq_true (by omega), decide_eq_true (by omega)]
                simp [rcR]
      · simp only [k3, decide_false, cond_false, if_false, Option.bind_some]
        rfl
def tkS (T : List UInt8) (s : St) (v : Int) : List UInt8 × St :=
  if s.2 = true ∨ (T.length : Int) - (s.1 : Int) < v then ([], (s.1, true)) else ((T.drop s.1).take v.toNat, (s.1 + v.toNat, false))
def shS (T : List UInt8) (s : St) : List UInt8 × St := tkS T (nm T s).2 (nm T s).1
def shI (T : List UInt8) (s : St) : List UInt8 × St :=
  if s.2 = true then ([], (s.1, true)) else match rdV (T.drop s.1) with
  | some (v, m) => if 20000 < v ∨ T.length - (s.1 + m) < v then ([], (s.1, true)) else ((T.drop (s.1 + m)).take v, (s.1 + m + v, false))
  | none => ([], (s.1, true))
theorem shS_spec {T : List UInt8} {s : St} (hs : s.1 ≤ T.length) (h : (shS T s).2.2 = false) :
    s.2 = false ∧ (shS T s).2.1 ≤ T.length ∧ T.take (shS T s).2.1 = T.take s.1 ++ (vB (shS T s).1.length ++ (shS T s).1) := by
  have hle := nm_le hs
  have hnn := nm_nn T s
  unfold shS tkS at h ⊢
  split at h
  · cases h
  · rename_i hc
    rw [if_neg hc]
    have h2 : (nm T s).2.2 = false := by cases hx : (nm T s).2.2 <;> simp [hx] at hc ⊢
    have h3 : ¬ (T.length : Int) - ((nm T s).2.1 : Int) < (nm T s).1 := fun hx => hc (Or.inr hx)
    obtain ⟨t1, t2, t3⟩ := nm_take hs h2
    refine ⟨nm_bad h2, (by simp only; omega), ?_⟩
    simp only
    rw [List.length_take, List.length_drop, List.take_add, t1, show min (nm T s).1.toNat (T.length - (nm T s).2.1) = (nm T s).1.toNat from by omega, List.append_assoc]
theorem sh_eq {T : List UInt8} {s : St} (hs : s.1 ≤ T.length) : ((shS T s).2.2 = false → (shS T s).1.length ≤ 20000 → shI T s = shS T s) ∧ ((shS T s).2.2 = false → ¬ (shS T s).1.length ≤ 20000 → (shI T s).2.2 = true) ∧ ((shS T s).2.2 = true → (shI T s).2.2 = true) := by
  unfold shS shI tkS nm
  cases hb : s.2 with
  | true => simp
  | false =>
    simp only [Bool.false_eq_true, if_false]
    cases hr : rdV (T.drop s.1) with
    | none => simp
    | some x =>
      obtain ⟨v, m⟩ := x
      have := rdV_in hr
      rw [List.length_drop] at this
      simp only [false_or]
      by_cases h1 : T.length - (s.1 + m) < v
      · have : (T.length : Int) - ((s.1 + m : Nat) : Int) < (v : Int) := by omega
        rw [if_pos (Or.inr this), if_pos (Or.inr h1)]
        exact ⟨fun h => (by cases h), fun h => (by cases h), fun _ => rfl⟩
      · have h2 : ¬ (T.length : Int) - ((s.1 + m : Nat) : Int) < (v : Int) := by omega
        rw [if_neg (by simp; omega)]
        by_cases h3 : 20000 < v
        · rw [if_pos (Or.inl h3)]
          refine ⟨?_, fun _ _ => rfl, fun h => by cases h⟩
          intro _ h4
          simp only [List.length_take, List.length_drop, Int.toNat_natCast] at h4
          omega
        · rw [if_neg (by omega)]
          refine ⟨fun _ _ => by simp, ?_, fun h => by cases h⟩
          intro _ h4
          simp only [List.length_take, List.length_drop, Int.toNat_natCast] at h4
          omega
theorem w_sl09Take (T : List UInt8) (s : St) (hs : s.1 ≤ T.length) (hl : T.length ≤ 2097152) (v : Int) (h0 : 0 ≤ v) (h1 : v ≤ 1000000000) : g_sl09Take ((BA T, (s.1 : Int), s.2), v) = some (BA (tkS T s v).1, (BA T, ((tkS T s v).2.1 : Int), (tkS T s v).2.2)) := by
  show f_sl09Take BIG _ = _
  rw [e_sl09Take]
  dsimp only
  rw [BA_size]
  unfold tkS
  cases hb : s.2 with
  | true => simp [BA]
  | false =>
    simp only [cond_false, Option.bind_some, Bool.false_eq_true, false_or]
    rw [wr (n := (T.length : Int) - (s.1 : Int)) (by omega) (by omega)]
    by_cases h : (T.length : Int) - (s.1 : Int) < v
    · rw [decide_eq_true h, if_pos h]; rfl
    · rw [decide_eq_false h, if_neg h, cond_false, wr (n := (s.1 : Int) + v) (by omega) (by omega), wr (n := (s.1 : Int) + v - v) (by omega) (by omega), decide_eq_true (by omega)]
      simp only [cond_true, BA_ext]
      rw [show ((s.1 : Int) + v - v).toNat = s.1 from by omega, show ((s.1 : Int) + v).toNat = s.1 + v.toNat from by omega, show s.1 + v.toNat - s.1 = v.toNat from by omega, show ((s.1 + v.toNat : Nat) : Int) = (s.1 : Int) + v from by omega]
theorem w_ireader_short (T : List UInt8) (s : St) (hs : s.1 ≤ T.length) (hl : T.length ≤ 2097152) : g_ireader_short (BA T, (s.1 : Int), s.2) = some (BA (shI T s).1, (BA T, ((shI T s).2.1 : Int), (shI T s).2.2)) := by
  show f_ireader_short BIG _ = _
  rw [e_ireader_short]
  dsimp only
  have he : g_iReadShort (BA T, (s.1 : Int)) = f_iReadShort BIG (BA T, (s.1 : Int)) := rfl
  rw [he, e_iReadShort, w_iReadVar T _ hl, BA_size]
  unfold rvR shI
  rw [show inB (s.1 : Int) 0 (T.length : Int) = true from inB_t.2 (by omega), if_pos rfl, Int.toNat_natCast]
  cases hr : rdV (T.drop s.1) with
  | none => cases s.2 <;> rfl
  | some x =>
    obtain ⟨v, m⟩ := x
    have := rdV_in hr
    rw [List.length_drop] at this
    simp only [Option.bind_some, Bool.not_true, cond_false]
    rw [wr (n := (T.length : Int) - ((s.1 : Int) + (m : Int))) (by omega) (by omega), wr (n := (s.1 : Int) + (m : Int) + (v : Int)) (by omega) (by omega)]
    by_cases h1 : 20000 < v
    · rw [decide_eq_true (by omega)]
      simp only [cond_true, Option.bind_some, h1, true_or, if_true]
      cases s.2 <;> rfl
    · rw [decide_eq_false (by omega)]
      simp only [cond_false, Option.bind_some, h1, false_or]
      by_cases h2 : T.length - (s.1 + m) < v
      · rw [decide_eq_true (by omega)]
        simp only [cond_true, Option.bind_some, h2, if_true]
        cases s.2 <;> rfl
      · rw [decide_eq_false (by omega), cond_false, decide_eq_true (by omega), cond_true, if_neg h2, BA_ext]
        rw [show ((s.1 : Int) + (m : Int) + (v : Int)).toNat = s.1 + m + v from by omega, show ((s.1 : Int) + (m : Int)).toNat = s.1 + m from by omega, show s.1 + m + v - (s.1 + m) = v from by omega]
        cases s.2 <;> simp <;> first | rfl | omega
def rrR : Option Rc → Int × Int × Int × Int × Int × Int × Int × Bool × List (Int × Int) × List Int × Int × Int × List (Int × Int) × Int × Bool
  | some r => (r.1, r.2.1, r.2.2.1, r.2.2.2.1, r.2.2.2.2.1, r.2.2.2.2.2.1, r.2.2.2.2.2.2.1, r.2.2.2.2.2.2.2.1, r.2.2.2.2.2.2.2.2.1, r.2.2.2.2.2.2.2.2.2.1, r.2.2.2.2.2.2.2.2.2.2.1, r.2.2.2.2.2.2.2.2.2.2.2.1, r.2.2.2.2.2.2.2.2.2.2.2.2.1, r.2.2.2.2.2.2.2.2.2.2.2.2.2, true)
  | none => (0, 0, 0, 0, 0, 0, 0, false, [], [], 0, 0, [], 0, false)
def mkA (k sh : Int) (x : Int × Bool × List Ed × List Int × Bool) : Rc := (k, 0, 0, 0, 0, sh, x.1, x.2.1, x.2.2.1, x.2.2.2.1, 0, 0, [], 0)
def mkO (k : Int) (x : Int × Int × List Ed × Int × Bool) : Rc := (k, 0, 0, 0, 0, 0, 0, false, [], [], x.1, x.2.1, x.2.2.1, x.2.2.2.1)
def lenOk (r : Rc) : Prop := r.2.2.2.2.2.2.2.2.1.length ≤ 100 ∧ r.2.2.2.2.2.2.2.2.2.1.length ≤ 100 ∧ r.2.2.2.2.2.2.2.2.2.2.2.2.1.length ≤ 100
theorem lenA (n k sh : Int) (U : List UInt8) : lenOk (mkA k sh (raR (rdA n U))) := by
  cases h : rdA n U with
  | none => simp [mkA, raR, lenOk]
  | some a =>
    have := ansB_in (rdA_some h).1
    have h2 := eOk_len this.2.2.2.2.1
    exact ⟨by simp only [mkA, raR]; omega, by simp only [mkA, raR]; omega, by simp [mkA]⟩
theorem lenO (n k : Int) (U : List UInt8) : lenOk (mkO k (roR (rdO n U))) := by
  cases h : rdO n U with
  | none => simp [mkO, roR, lenOk]
  | some a =>
    have := ordB_in (rdO_some h).1
    have h2 := eOk_len this.2.2.2.2.2.2.2.2
    exact ⟨by simp [mkO], by simp [mkO], by simp only [mkO, roR]; omega⟩
theorem iTail (n : Int) (T : List UInt8) (s : St) (r : Rc) (fine : Bool) (h : lenOk r) :
    (Option.bind (g_iRecText (n, r)) fun r11 =>
      Option.bind (bif !fine then some true
       else Option.bind (g_ireader_ends (BA T, (s.1 : Int), s.2)) fun r12 =>
       bif !r12.1 then some true
       else bif !r11.1.2 then some true
       else some (!(r11.1.1.toList == (BA T).toList)) : Option (Bool)) fun x13 =>
      bif x13 then some (((0 : Int), (0 : Int), (0 : Int), (0 : Int), (0 : Int), (0 : Int), (0 : Int), false, ([] : List (Int × Int)), ([] : List Int), (0 : Int), (0 : Int), ([] : List (Int × Int)), (0 : Int), false), ())
      else some (rrR (some r), ())) = some (rrR (if fine = true ∧ s.2 = false ∧ s.1 = T.length ∧ rcT n r = some T then some r else none), ()) := by
  rw [w_iRecText n r (by have := h.1; omega) (by have := h.2.1; omega) (by have := h.2.2; omega)]
  have he : ∀ p b, g_ireader_ends (BA T, p, b) = some (!b && decide (p = (T.length : Int)), (BA T, p, b)) := by
    intro p b
    show f_ireader_ends BIG _ = _
    rw [e_ireader_ends]
    cases b <;> rfl
  rw [he]
  simp only [Option.bind_some]
  cases fine with
  | false => rfl
  | true =>
    cases hb : s.2 with
    | true => rfl
    | false =>
      by_cases hp : s.1 = T.length
      · cases hr : rcT n r with
        | none => simp [hp, rcR, rrR]
        | some t =>
          simp only [hp, rcR, BA_toList]
          by_cases ht : t = T
          · simp [ht, rrR]
          · have hb : (t == T) = false := beq_eq_false_iff_ne.2 ht
            simp [hb, ht, rrR]
      · have : decide ((s.1 : Int) = (T.length : Int)) = false := decide_eq_false (by omega)
        simp [this, hp, rrR]
theorem sTail (n : Int) (T : List UInt8) (s : St) (r : Rc) (h : lenOk r) :
    (Option.bind (g_sRecText (n, r)) fun r11 =>
      Option.bind (bif s.2 then some true
       else bif !r11.1.2 then some true
       else some (!(r11.1.1.toList == (BA T).toList)) : Option (Bool)) fun x13 =>
      bif x13 then some (((0 : Int), (0 : Int), (0 : Int), (0 : Int), (0 : Int), (0 : Int), (0 : Int), false, ([] : List (Int × Int)), ([] : List Int), (0 : Int), (0 : Int), ([] : List (Int × Int)), (0 : Int), false), ())
      else some (rrR (some r), ())) = some (rrR (if s.2 = false ∧ rcT n r = some T then some r else none), ()) := by
  rw [w_sRecText n r (by have := h.1; omega) (by have := h.2.1; omega) (by have := h.2.2; omega)]
  simp only [Option.bind_some]
  cases hb : s.2 with
  | true => rfl
  | false =>
    cases hr : rcT n r with
    | none => simp [rcR, rrR]
    | some t =>
      simp only [rcR, BA_toList]
      by_cases ht : t = T
      · simp [ht, rrR]
      · have hb : (t == T) = false := beq_eq_false_iff_ne.2 ht
        simp [hb, ht, rrR]
/-- What is read of a record, and the cursor behind it. -/
def rcS (n : Int) (T : List UInt8) : St × Rc :=
  let p := on T (0, false)
  if p.1 = 1 then
    let a := nm T p.2; let b := nm T a.2; let c := nm T b.2; let d := nm T c.2
    (d.2, (p.1, a.1, b.1, c.1, d.1, 0, 0, false, [], [], 0, 0, [], 0))
  else if p.1 = 2 then
    let a := nm T p.2; let u := shS T a.2
    (u.2, mkA p.1 a.1 (raR (rdA n u.1)))
  else if p.1 = 3 then
    let u := shS T p.2
    (u.2, mkO p.1 (roR (rdO n u.1)))
  else (p.2, (p.1, 0, 0, 0, 0, 0, 0, false, [], [], 0, 0, [], 0))
def rcD (n : Int) (T : List UInt8) : Option Rc := if (rcS n T).1.2 = false ∧ rcT n (rcS n T).2 = some T then some (rcS n T).2 else none
theorem w_sReadRec (n : Int) (T : List UInt8) (hl : T.length ≤ 1048576) : g_sReadRec (n, BA T) = some (rrR (rcD n T), ()) := by
  show f_sReadRec BIG _ = _
  have r0 : g_sl09One (BA T, (0 : Int), false) = some ((on T (0, false)).1, (BA T, ((on T (0, false)).2.1 : Int), (on T (0, false)).2.2)) := w_sl09One T (0, false) (Nat.zero_le _) (by omega)
  have l0 : (on T (0, false)).2.1 ≤ T.length := on_le (Nat.zero_le _)
  rw [e_sReadRec, r0, Option.bind_some]
  dsimp only
  unfold rcD rcS
  simp only
  generalize on T (0, false) = p at l0
  by_cases k1 : p.1 = 1
  · simp only [k1, decide_true, cond_true, if_true]
    rw [w_sl09Var T p.2 l0 (by omega), Option.bind_some]
    have l1 := nm_le l0
    rw [w_sl09Var T _ l1 (by omega), Option.bind_some]
    have l2 := nm_le l1
    rw [w_sl09Var T _ l2 (by omega), Option.bind_some]
    have l3 := nm_le l2
    rw [w_sl09Var T _ l3 (by omega), Option.bind_some, Option.bind_some]
    exact sTail n T _ (1, (nm T p.2).1, (nm T (nm T p.2).2).1, (nm T (nm T (nm T p.2).2).2).1, (nm T (nm T (nm T (nm T p.2).2).2).2).1, 0, 0, false, [], [], 0, 0, [], 0) ⟨by simp, by simp, by simp⟩
  · simp only [k1, decide_false, cond_false, if_false]
    by_cases k2 : p.1 = 2
    · simp only [k2, decide_true, cond_true, if_true]
      rw [w_sl09Var T p.2 l0 (by omega), Option.bind_some]
      have l1 := nm_le l0
      have l2 := nm_le l1
      have nn := nm_nn T (nm T p.2).2
      rw [w_sl09Var T _ l1 (by omega), Option.bind_some, w_sl09Take T _ l2 (by omega) _ nn.1 nn.2, Option.bind_some]
      have hU : (shS T (nm T p.2).2).1.length ≤ 1048576 := by
        unfold shS tkS
        split
        · simp
        · simp only [List.length_take, List.length_drop]; omega
      have wA := w_sReadAnswer n _ hU
      unfold shS at wA
      simp only
      rw [wA, Option.bind_some, Option.bind_some]
      exact sTail n T _ (mkA 2 (nm T p.2).1 (raR (rdA n (shS T (nm T p.2).2).1))) (lenA n _ _ _)
    · simp only [k2, decide_false, cond_false, if_false]
      by_cases k3 : p.1 = 3
      · simp only [k3, decide_true, cond_true, if_true]
        have l1 := nm_le l0
        have nn := nm_nn T p.2
        rw [w_sl09Var T p.2 l0 (by omega), Option.bind_some, w_sl09Take T _ l1 (by omega) _ nn.1 nn.2, Option.bind_some]
        have hU : (shS T p.2).1.length ≤ 1048576 := by
          unfold shS tkS
          split
          · simp
          · simp only [List.length_take, List.length_drop]; omega
        have wA := w_sReadOrder n _ hU
        unfold shS at wA
        simp only
        rw [wA, Option.bind_some, Option.bind_some]
        exact sTail n T _ (mkO 3 (roR (rdO n (shS T p.2).1))) (lenO n _ _)
      · simp only [k3, decide_false, cond_false, if_false, Option.bind_some]
        exact sTail n T _ (p.1, 0, 0, 0, 0, 0, 0, false, [], [], 0, 0, [], 0) ⟨by simp, by simp, by simp⟩
theorem rc_ends {n : Int} {T : List UInt8} (h : (rcS n T).1.2 = false) (hr : rcT n (rcS n T).2 = some T) : (rcS n T).1.1 = T.length := by
  have l0 : (on T (0, false)).2.1 ≤ T.length := on_le (Nat.zero_le _)
  have t0 := @on_take T (0, false)
  unfold rcS at h hr ⊢
  simp only at h hr ⊢ t0
  generalize on T (0, false) = p at l0 h hr t0 ⊢
  by_cases k1 : p.1 = 1
  · simp only [k1, if_true] at h hr ⊢
    have l1 := nm_le l0
    have l2 := nm_le l1
    have l3 := nm_le l2
    have l4 := nm_le l3
    obtain ⟨a4, _⟩ := nm_take l3 h
    obtain ⟨a3, _⟩ := nm_take l2 (nm_bad h)
    obtain ⟨a2, _⟩ := nm_take l1 (nm_bad (nm_bad h))
    obtain ⟨a1, _⟩ := nm_take l0 (nm_bad (nm_bad (nm_bad h)))
    obtain ⟨a0, _⟩ := t0 (nm_bad (nm_bad (nm_bad (nm_bad h))))
    rw [a3, a2, a1, a0, k1] at a4
    unfold rcT at hr
    simp only [if_true] at hr
    split at hr
    · have hr := Option.some.inj hr
      refine (take_full l4).1 ?_
      rw [a4]
      refine Eq.trans ?_ hr
      simp only [List.take_zero, List.nil_append, List.append_assoc]
      rfl
    · cases hr
  · simp only [k1, if_false] at h hr ⊢
    by_cases k2 : p.1 = 2
    · simp only [k2, if_true] at h hr ⊢
      have l1 := nm_le l0
      obtain ⟨b1, b2, b3⟩ := shS_spec l1 h
      obtain ⟨a1, _⟩ := nm_take l0 b1
      obtain ⟨a0, _⟩ := t0 (nm_bad b1)
      rw [a1, a0, k2] at b3
      refine (take_full b2).1 ?_
      rw [b3]
      cases hA : rdA n (shS T (nm T p.2).2).1 with
      | none =>
        rw [hA] at hr
        unfold rcT mkA raR at hr
        simp only [show ¬ (2 : Int) = 1 from by decide, if_false, if_true] at hr
        split at hr
        · rename_i hc
          simp only [Bool.and_eq_true] at hc
          have := ansB_in hc.2
          simp only at this
          omega
        · cases hr
      | some a =>
        have hT := (rdA_some hA).2
        rw [hA] at hr
        unfold rcT mkA raR at hr
        simp only [show ¬ (2 : Int) = 1 from by decide, if_false, if_true] at hr
        split at hr
        · have hr := Option.some.inj hr
          refine Eq.trans ?_ hr
          have : aT (a.1, a.2.1, a.2.2.1, a.2.2.2) = aT a := rfl
          rw [this, hT]
          simp only [List.take_zero, List.nil_append, List.append_assoc]
          rfl
        · cases hr
    · simp only [k2, if_false] at h hr ⊢
      by_cases k3 : p.1 = 3
      · simp only [k3, if_true] at h hr ⊢
        obtain ⟨b1, b2, b3⟩ := shS_spec l0 h
        obtain ⟨a0, _⟩ := t0 b1
        rw [a0, k3] at b3
        refine (take_full b2).1 ?_
        rw [b3]
        cases hA : rdO n (shS T p.2).1 with
        | none =>
          rw [hA] at hr
          unfold rcT mkO roR at hr
          simp only [show ¬ (3 : Int) = 1 from by decide, show ¬ (3 : Int) = 2 from by decide, if_false, if_true] at hr
          split at hr
          · rename_i hc
            simp only [Bool.and_eq_true] at hc
            have := ordB_in hc.2
            simp only at this
            omega
          · cases hr
        | some a =>
          have hT := (rdO_some hA).2
          rw [hA] at hr
          unfold rcT mkO roR at hr
          simp only [show ¬ (3 : Int) = 1 from by decide, show ¬ (3 : Int) = 2 from by decide, if_false, if_true] at hr
          split at hr
          · have hr := Option.some.inj hr
            refine Eq.trans ?_ hr
            have : oT (a.1, a.2.1, a.2.2.1, a.2.2.2) = oT a := rfl
            rw [this, hT]
            simp only [List.take_zero, List.nil_append, List.append_assoc]
            rfl
          · cases hr
      · simp only [k3, if_false] at h hr
        unfold rcT at hr
        simp only [k1, k2, k3, if_false] at hr
        cases hr
theorem rcD_if (n : Int) (T : List UInt8) : (if true = true ∧ (rcS n T).1.2 = false ∧ (rcS n T).1.1 = T.length ∧ rcT n (rcS n T).2 = some T then some (rcS n T).2 else none) = rcD n T := by
  unfold rcD
  by_cases h : (rcS n T).1.2 = false ∧ rcT n (rcS n T).2 = some T
  · rw [if_pos h, if_pos ⟨rfl, h.1, rc_ends h.1 h.2, h.2⟩]
  · rw [if_neg h, if_neg (fun hc => h ⟨hc.2.1, hc.2.2.2⟩)]
theorem w_iReadRec (n : Int) (T : List UInt8) (hl : T.length ≤ 1048576) : g_iReadRec (n, BA T) = some (rrR (rcD n T), ()) := by
  show f_iReadRec BIG _ = _
  have r0 : g_ireader_one (BA T, (0 : Int), false) = some ((on T (0, false)).1, (BA T, ((on T (0, false)).2.1 : Int), (on T (0, false)).2.2)) := w_ireader_one T (0, false) (Nat.zero_le _) (by omega)
  have l0 : (on T (0, false)).2.1 ≤ T.length := on_le (Nat.zero_le _)
  rw [e_iReadRec, r0, Option.bind_some]
  dsimp only
  by_cases k1 : (on T (0, false)).1 = 1
  · have hS : rcS n T = ((nm T (nm T (nm T (nm T (on T (0, false)).2).2).2).2).2, (1, (nm T (on T (0, false)).2).1, (nm T (nm T (on T (0, false)).2).2).1, (nm T (nm T (nm T (on T (0, false)).2).2).2).1, (nm T (nm T (nm T (nm T (on T (0, false)).2).2).2).2).1, 0, 0, false, [], [], 0, 0, [], 0)) := by
      unfold rcS; simp only [k1, if_true]
    rw [← rcD_if, hS]
    simp only [k1, decide_true, cond_true]
    generalize on T (0, false) = p at l0
    rw [w_ireader_num T p.2 l0 (by omega), Option.bind_some]
    have l1 := nm_le l0
    rw [w_ireader_num T _ l1 (by omega), Option.bind_some]
    have l2 := nm_le l1
    rw [w_ireader_num T _ l2 (by omega), Option.bind_some]
    have l3 := nm_le l2
    rw [w_ireader_num T _ l3 (by omega), Option.bind_some, Option.bind_some]
    refine (iTail n T (nm T (nm T (nm T (nm T p.2).2).2).2).2 (1, (nm T p.2).1, (nm T (nm T p.2).2).1, (nm T (nm T (nm T p.2).2).2).1, (nm T (nm T (nm T (nm T p.2).2).2).2).1, 0, 0, false, [], [], 0, 0, [], 0) true ⟨by simp, by simp, by simp⟩).trans ?_
    congr
    simp
  · by_cases k2 : (on T (0, false)).1 = 2
    · have hS : rcS n T = ((shS T (nm T (on T (0, false)).2).2).2, mkA 2 (nm T (on T (0, false)).2).1 (raR (rdA n (shS T (nm T (on T (0, false)).2).2).1))) := by
        unfold rcS; simp only [k2, if_true, show ¬ (2 : Int) = 1 from by decide, if_false]
      simp only [k2, show ¬ (2 : Int) = 1 from by decide, decide_false, cond_false, decide_true, cond_true]
      rw [← rcD_if, hS]
      generalize on T (0, false) = p at l0
      have l1 := nm_le l0
      rw [w_ireader_num T p.2 l0 (by omega), Option.bind_some, w_ireader_short T _ l1 (by omega), Option.bind_some]
      obtain ⟨e1, e2, e3⟩ := sh_eq l1
      have hU : (shI T (nm T p.2).2).1.length ≤ 1048576 := by
        unfold shI
        split
        · simp
        · split
          · split
            · simp
            · simp only [List.length_take, List.length_drop]; omega
          · simp
      simp only
      rw [w_iReadAnswer n _ hU, Option.bind_some, Option.bind_some]
      refine (iTail n T (shI T (nm T p.2).2).2 (mkA 2 (nm T p.2).1 (raR (rdA n (shI T (nm T p.2).2).1))) (raR (rdA n (shI T (nm T p.2).2).1)).2.2.2.2 (lenA n _ _ _)).trans ?_
      have key : (if (raR (rdA n (shI T (nm T p.2).2).1)).2.2.2.2 = true ∧ (shI T (nm T p.2).2).2.2 = false ∧ (shI T (nm T p.2).2).2.1 = T.length ∧ rcT n (mkA 2 (nm T p.2).1 (raR (rdA n (shI T (nm T p.2).2).1))) = some T then some (mkA 2 (nm T p.2).1 (raR (rdA n (shI T (nm T p.2).2).1))) else none) =
          (if true = true ∧ (shS T (nm T p.2).2).2.2 = false ∧ (shS T (nm T p.2).2).2.1 = T.length ∧ rcT n (mkA 2 (nm T p.2).1 (raR (rdA n (shS T (nm T p.2).2).1))) = some T then some (mkA 2 (nm T p.2).1 (raR (rdA n (shS T (nm T p.2).2).1))) else none) := by
        have hno : ∀ U, rdA n U = none → rcT n (mkA 2 (nm T p.2).1 (raR (rdA n U))) ≠ some T := by
          intro U hA hr
          rw [hA] at hr
          unfold rcT mkA raR at hr
          simp only [show ¬ (2 : Int) = 1 from by decide, if_false, if_true] at hr
          split at hr
          · rename_i hc
            simp only [Bool.and_eq_true] at hc
            have := ansB_in hc.2
            simp only at this
            omega
          · cases hr
        cases hb : (shS T (nm T p.2).2).2.2 with
        | true => rw [if_neg (fun h => by rw [e3 hb] at h; cases h.2.1), if_neg (fun h => by cases h.2.1)]
        | false =>
          by_cases hlen : (shS T (nm T p.2).2).1.length ≤ 20000
          · rw [e1 hb hlen, hb]
            cases hA : rdA n (shS T (nm T p.2).2).1 with
            | none =>
              have := hno _ hA
              rw [hA] at this
              rw [if_neg (fun h => this h.2.2.2), if_neg (fun h => this h.2.2.2)]
            | some a => rfl
          · rw [if_neg (fun h => by rw [e2 hb hlen] at h; cases h.2.1)]
            cases hA : rdA n (shS T (nm T p.2).2).1 with
            | none =>
              have := hno _ hA
              rw [hA] at this
              rw [if_neg (fun h => this h.2.2.2)]
            | some a =>
              exfalso
              have h1 := rdA_some hA
              have := aT_len h1.1
              rw [h1.2] at this
              omega
      rw [key]
      congr
      simp
    · by_cases k3 : (on T (0, false)).1 = 3
      · have hS : rcS n T = ((shS T (on T (0, false)).2).2, mkO 3 (roR (rdO n (shS T (on T (0, false)).2).1))) := by
          unfold rcS; simp only [k3, if_true, show ¬ (3 : Int) = 1 from by decide, show ¬ (3 : Int) = 2 from by decide, if_false]
        simp only [k3, show ¬ (3 : Int) = 1 from by decide, show ¬ (3 : Int) = 2 from by decide, decide_false, cond_false, decide_true, cond_true]
        rw [← rcD_if, hS]
        generalize on T (0, false) = p at l0
        rw [w_ireader_short T _ l0 (by omega), Option.bind_some]
        obtain ⟨e1, e2, e3⟩ := sh_eq l0
        have hU : (shI T p.2).1.length ≤ 1048576 := by
          unfold shI
          split
          · simp
          · split
            · split
              · simp
              · simp only [List.length_take, List.length_drop]; omega
            · simp
        simp only
        rw [w_iReadOrder n _ hU, Option.bind_some, Option.bind_some]
        refine (iTail n T (shI T p.2).2 (mkO 3 (roR (rdO n (shI T p.2).1))) (roR (rdO n (shI T p.2).1)).2.2.2.2 (lenO n _ _)).trans ?_
        have key : (if (roR (rdO n (shI T p.2).1)).2.2.2.2 = true ∧ (shI T p.2).2.2 = false ∧ (shI T p.2).2.1 = T.length ∧ rcT n (mkO 3 (roR (rdO n (shI T p.2).1))) = some T then some (mkO 3 (roR (rdO n (shI T p.2).1))) else none) =
            (if true = true ∧ (shS T p.2).2.2 = false ∧ (shS T p.2).2.1 = T.length ∧ rcT n (mkO 3 (roR (rdO n (shS T p.2).1))) = some T then some (mkO 3 (roR (rdO n (shS T p.2).1))) else none) := by
          have hno : ∀ U, rdO n U = none → rcT n (mkO 3 (roR (rdO n U))) ≠ some T := by
            intro U hA hr
            rw [hA] at hr
            unfold rcT mkO roR at hr
            simp only [show ¬ (3 : Int) = 1 from by decide, show ¬ (3 : Int) = 2 from by decide, if_false, if_true] at hr
            split at hr
            · rename_i hc
              simp only [Bool.and_eq_true] at hc
              have := ordB_in hc.2
              simp only at this
              omega
            · cases hr
          cases hb : (shS T p.2).2.2 with
          | true => rw [if_neg (fun h => by rw [e3 hb] at h; cases h.2.1), if_neg (fun h => by cases h.2.1)]
          | false =>
            by_cases hlen : (shS T p.2).1.length ≤ 20000
            · rw [e1 hb hlen, hb]
              cases hA : rdO n (shS T p.2).1 with
              | none =>
                have := hno _ hA
                rw [hA] at this
                rw [if_neg (fun h => this h.2.2.2), if_neg (fun h => this h.2.2.2)]
              | some a => rfl
            · rw [if_neg (fun h => by rw [e2 hb hlen] at h; cases h.2.1)]
              cases hA : rdO n (shS T p.2).1 with
              | none =>
                have := hno _ hA
                rw [hA] at this
                rw [if_neg (fun h => this h.2.2.2)]
              | some a =>
                exfalso
                have h1 := rdO_some hA
                have := oT_len h1.1
                rw [h1.2] at this
                omega
        rw [key]
        congr
        simp
      · have hS : rcS n T = ((on T (0, false)).2, ((on T (0, false)).1, 0, 0, 0, 0, 0, 0, false, [], [], 0, 0, [], 0)) := by
          unfold rcS; simp only [k1, k2, k3, if_false]
        rw [← rcD_if, hS]
        simp only [k1, k2, k3, decide_false, cond_false, Option.bind_some]
        refine (iTail n T (on T (0, false)).2 ((on T (0, false)).1, 0, 0, 0, 0, 0, 0, false, [], [], 0, 0, [], 0) true ⟨by simp, by simp, by simp⟩).trans ?_
        congr
        simp
theorem fiLoop {α : Type} (a : List α) (hl : a.length < 18446744073709551616) (p : α → Bool) {F : (Int → Option (Unit ⊕ Int)) → Int → Option (Unit ⊕ Int)}
    (hF : ∀ self (i : Nat) y, a[i]? = some y → F self (i : Int) = if p y then some (.inr (i : Int)) else self ((i + 1 : Nat) : Int))
    (hE : ∀ self, F self (a.length : Int) = some (.inl ())) : loopT BIG F 0 = some (if a.findIdx p < a.length then .inr (a.findIdx p : Int) else .inl ()) := by
  refine loop_eq (fun (x : Int) => ∃ i : Nat, x = (i : Int) ∧ i ≤ a.length ∧ ∀ j (hj : j < a.length), j < i → p a[j] = false) (fun x => a.length - x.toNat) (fun _ => _) (fun self x ⟨i, h1, h2, h3⟩ hs => ?_) (n := BIG) (x := 0) (by simp; exact hl) ⟨0, rfl, by simp, fun j _ hj => by omega⟩
  subst h1
  by_cases hi : i < a.length
  · rw [hF self i a[i] (List.getElem?_eq_getElem hi)]
    cases hp : p a[i] with
    | true =>
      have : a.findIdx p = i := (List.findIdx_eq hi).2 ⟨hp, fun j hj => h3 j (by omega) hj⟩
      rw [if_pos rfl, this, if_pos hi]
    | false =>
      rw [if_neg (by simp)]
      exact hs _ ⟨i + 1, rfl, hi, fun j hj hji => by
        by_cases hj' : j = i
        · subst hj'; exact hp
        · exact h3 j hj (by omega)⟩ (by simp; omega)
  · have he : i = a.length := by omega
    subst he
    rw [hE, if_neg]
    intro h
    have h4 := List.findIdx_lt_length.1 h
    obtain ⟨x, hx, hpx⟩ := h4
    obtain ⟨j, hj, rfl⟩ := List.getElem_of_mem hx
    rw [h3 j hj hj] at hpx
    cases hpx
theorem gD {α : Type} {l : List α} {i : Nat} {y d : α} (h : l[i]? = some y) : l.getD i d = y := by rw [List.getD_eq_getElem?_getD, h]; rfl
theorem wr32_in (x : Int) : 0 ≤ IntKind.wrap .u32 x ∧ IntKind.wrap .u32 x ≤ 4294967295 := by
  simp only [IntKind.wrap, IntKind.bits, IntKind.signed]
  simp
  omega
theorem bl32 (op : BinOp) (a b : Int) : 0 ≤ bits op .u32 a b := (wr32_in _).1
theorem bh32 (op : BinOp) (a b : Int) : bits op .u32 a b ≤ 4294967295 := (wr32_in _).2
theorem band1 (x : Int) (h0 : 0 ≤ x) (h1 : x ≤ 4294967295) : bits .and .u32 x 1 = x % 2 := by
  obtain ⟨a, rfl⟩ : ∃ a : Nat, x = a := ⟨x.toNat, by omega⟩
  have e1 : (BitVec.ofInt 32 (a : Int)).toNat = a := by
    rw [BitVec.ofInt_natCast, BitVec.toNat_ofNat]; exact Nat.mod_eq_of_lt (by omega)
  have e2 : (BitVec.ofInt 32 (1 : Int)).toNat = 1 := by decide
  show IntKind.u32.wrap ((BitVec.ofInt 32 (a : Int) &&& BitVec.ofInt 32 (1 : Int)).toNat : Int) = _
  rw [BitVec.toNat_and, e1, e2, Nat.and_one_is_mod]
  have : IntKind.u32.wrap ((a % 2 : Nat) : Int) = ((a % 2 : Nat) : Int) := by
    simp only [IntKind.wrap, IntKind.bits, IntKind.signed]
    simp
    omega
  rw [this]; omega
theorem wr32 {x : Int} (h0 : 0 ≤ x) (h1 : x ≤ 4294967295) : IntKind.wrap .u32 x = x := by
  simp only [IntKind.wrap, IntKind.bits, IntKind.signed]
  simp
  omega
def stp (x : Int) : Int := if x % 2 = 1 then bits .xor .u32 (x / 2) 3558460437 else x / 2
theorem stp_in {x : Int} (h0 : 0 ≤ x) (h1 : x ≤ 4294967295) : 0 ≤ stp x ∧ stp x ≤ 4294967295 := by
  unfold stp
  split
  · exact ⟨bl32 _ _ _, bh32 _ _ _⟩
  · omega
def it8 : Nat → Int → Int
  | 0, v => v
  | k + 1, v => it8 k (stp v)
theorem it8_in : ∀ (k : Nat) {x : Int}, 0 ≤ x → x ≤ 4294967295 → 0 ≤ it8 k x ∧ it8 k x ≤ 4294967295
  | 0, _, h0, h1 => ⟨h0, h1⟩
  | k + 1, x, h0, h1 => it8_in k (stp_in h0 h1).1 (stp_in h0 h1).2
theorem innerL {F : (Int × Int → Option Int) → Int × Int → Option Int} (v : Int) (h0 : 0 ≤ v) (h1 : v ≤ 4294967295)
    (hF : ∀ self (x : Int) (i : Nat), 0 ≤ x → x ≤ 4294967295 → i < 8 → F self (x, (i : Int)) = self (stp x, ((i + 1 : Nat) : Int)))
    (hE : ∀ self x, F self (x, ((8 : Nat) : Int)) = some x) : loopT BIG F (v, 0) = some (it8 8 v) := by
  have L := loop_eq (F := F) (fun x => ∃ i : Nat, x.2 = (i : Int) ∧ i ≤ 8 ∧ 0 ≤ x.1 ∧ x.1 ≤ 4294967295) (fun x => 8 - x.2.toNat) (fun x => it8 (8 - x.2.toNat) x.1) (fun self x ⟨i, a1, a2, a3, a4⟩ hs => by
    obtain ⟨x, j⟩ := x
    simp only at a1 a3 a4 hs ⊢
    subst a1
    by_cases hi : i < 8
    · rw [hF self x i a3 a4 hi, hs (stp x, ((i + 1 : Nat) : Int)) ⟨i + 1, rfl, hi, (stp_in a3 a4).1, (stp_in a3 a4).2⟩ (by simp; omega)]
      simp only [Int.toNat_natCast]
      rw [show 8 - i = (8 - (i + 1)) + 1 from by omega]; rfl
    · have : i = 8 := by omega
      subst this
      rw [hE]; rfl) (n := BIG) (x := (v, 0)) (by show 8 - 0 < BIG; decide) ⟨0, rfl, by omega, h0, h1⟩
  exact L
def smS (s : Int) (b : UInt8) : Int := it8 8 (bits .xor .u32 s (b.toNat : Int))
def smT (s : Int) (T : List UInt8) : Int := T.foldl smS s
theorem w_iSumMore (s : Int) (T : List UInt8) (h0 : 0 ≤ s) (h1 : s ≤ 4294967295) (hl : T.length ≤ 2097152) : g_iSumMore (s, BA T) = some (smT s T, ()) := by
  have hm : maxLen = 9223372036854775807 := by decide
  show f_iSumMore BIG _ = _
  rw [e_iSumMore, BA_size]
  rw [foldLoop T (by omega) (fun _ (x : Int) => 0 ≤ x ∧ x ≤ 4294967295) smS id ⟨h0, h1⟩ (fun i x b _ h => it8_in 8 (bl32 _ _ _) (bh32 _ _ _))]
  · rfl
  · intro self x i b hb h
    have hi := (List.getElem?_eq_some_iff.1 hb).1
    simp only [show ((i : Int) < (T.length : Int)) from by omega, decide_true, cond_true]
    have := b.toNat_lt
    rw [bnd_nat hi, BA_get, hb, Option.bind_some, wr32 (by omega) (by omega), innerL _ (bl32 _ _ _) (bh32 _ _ _)]
    · rw [Option.bind_some, wr1 (by omega)]; rfl
    · intro self x i a0 a1 a2
      simp only [show ((i : Int) < 8) from by omega, decide_true, cond_true]
      rw [band1 x a0 a1, wr1 (by omega), show Int.fdiv x (2 ^ (Nat.min (Int.toNat (1 : Int)) (IntKind.bits .u32))) = x / 2 from by
        show Int.fdiv x (2 ^ 1) = _
        rw [Int.fdiv_eq_ediv_of_nonneg _ (by omega)]; rfl]
      unfold stp
      by_cases hx : x % 2 = 1
      · rw [decide_eq_true hx, if_pos hx]; rfl
      · rw [decide_eq_false hx, if_neg hx]; rfl
    · intro self x; rfl
  · intro self x h; simp
theorem w_sSumMore (s : Int) (T : List UInt8) (h0 : 0 ≤ s) (h1 : s ≤ 4294967295) (hl : T.length ≤ 2097152) : g_sSumMore (s, BA T) = some (smT s T, ()) := by
  have hm : maxLen = 9223372036854775807 := by decide
  show f_sSumMore BIG _ = _
  rw [e_sSumMore, BA_size]
  rw [foldLoop T (by omega) (fun _ (x : Int) => 0 ≤ x ∧ x ≤ 4294967295) smS id ⟨h0, h1⟩ (fun i x b _ h => it8_in 8 (bl32 _ _ _) (bh32 _ _ _))]
  · rfl
  · intro self x i b hb h
    have hi := (List.getElem?_eq_some_iff.1 hb).1
    simp only [show ((i : Int) < (T.length : Int)) from by omega, decide_true, cond_true]
    have := b.toNat_lt
    rw [bnd_nat hi, BA_get, hb, Option.bind_some, wr32 (by omega) (by omega), innerL _ (bl32 _ _ _) (bh32 _ _ _)]
    · rw [Option.bind_some, wr1 (by omega)]; rfl
    · intro self x i a0 a1 a2
      simp only [show ((i : Int) < 8) from by omega, decide_true, cond_true]
      rw [Int.tmod_eq_emod_of_nonneg a0, Int.tdiv_eq_ediv_of_nonneg a0, wr32 (by omega) (by omega), wr1 (by omega)]
      unfold stp
      by_cases hx : x % 2 = 1
      · rw [decide_eq_true hx, if_pos hx]; rfl
      · rw [decide_eq_false hx, if_neg hx]; rfl
    · intro self x; rfl
  · intro self x h; simp
theorem w_iSumOf (T : List UInt8) (hl : T.length ≤ 2097152) : g_iSumOf (BA T) = some (smT 4294967295 T, ()) := by
  show f_iSumOf BIG _ = _
  rw [e_iSumOf, w_iSumMore _ T (by omega) (by omega) hl]; rfl
theorem w_sSumOf (T : List UInt8) (hl : T.length ≤ 2097152) : g_sSumOf (BA T) = some (smT 4294967295 T, ()) := by
  show f_sSumOf BIG _ = _
  rw [e_sSumOf, w_sSumMore _ T (by omega) (by omega) hl]; rfl
/-- Four bytes of a sum. -/
def fourT (x : Int) : List UInt8 := [Int.fdiv x (2 ^ (Nat.min (Int.toNat (24 : Int)) (IntKind.bits .u32))), Int.fdiv x (2 ^ (Nat.min (Int.toNat (16 : Int)) (IntKind.bits .u32))), Int.fdiv x (2 ^ (Nat.min (Int.toNat (8 : Int)) (IntKind.bits .u32))), x].map by8
theorem four_eq (x : Int) : bytesStr ([IntKind.wrap .u8 (Int.fdiv x (2 ^ (Nat.min (Int.toNat (24 : Int)) (IntKind.bits .u32)))), IntKind.wrap .u8 (Int.fdiv x (2 ^ (Nat.min (Int.toNat (16 : Int)) (IntKind.bits .u32)))), IntKind.wrap .u8 (Int.fdiv x (2 ^ (Nat.min (Int.toNat (8 : Int)) (IntKind.bits .u32)))), IntKind.wrap .u8 (x)]) = BA (fourT x) := bytes_by [Int.fdiv x (2 ^ (Nat.min (Int.toNat (24 : Int)) (IntKind.bits .u32))), Int.fdiv x (2 ^ (Nat.min (Int.toNat (16 : Int)) (IntKind.bits .u32))), Int.fdiv x (2 ^ (Nat.min (Int.toNat (8 : Int)) (IntKind.bits .u32))), x]
theorem four_len (x : Int) : (fourT x).length = 4 := rfl
def frT (T : List UInt8) : Option (List UInt8) := if inB (T.length : Int) 1 9000 then some ((vB T.length ++ fourT (smT 4294967295 T)) ++ T) else none
def txR : Option (List UInt8) → ByteArray × Bool
  | some s => (BA s, true)
  | none => (BA [], false)
theorem w_iFrame (T : List UInt8) (hl : T.length ≤ 2097152) : g_iFrame (BA T) = some (txR (frT T), ()) := by
  show f_iFrame BIG _ = _
  rw [e_iFrame, BA_size, h_iin', Option.bind_some]
  unfold frT
  cases hb : inB (T.length : Int) 1 9000 with
  | false => rfl
  | true =>
    rw [inB_t] at hb
    have hv := vB_len (v := T.length) (by omega)
    simp only [Bool.not_true, cond_false, if_true]
    rw [w_iVarText, Option.bind_some, show inB (T.length : Int) 0 1000000000 = true from inB_t.2 (by omega), if_pos rfl, Int.toNat_natCast, w_iSumOf T hl, Option.bind_some]
    simp only [four_eq, BA_app, BA_size, List.length_append, four_len]
    rw [decide_eq_true (show (vB T.length).length + 4 ≤ 4611686018427387904 from by omega), decide_eq_true (show (vB T.length).length + 4 + T.length ≤ 4611686018427387904 from by omega)]
    rfl
theorem w_sFrame (T : List UInt8) (hl : T.length ≤ 2097152) : g_sFrame (BA T) = some (txR (frT T), ()) := by
  show f_sFrame BIG _ = _
  rw [e_sFrame, BA_size, h_sl01In', Option.bind_some]
  unfold frT
  cases hb : inB (T.length : Int) 1 9000 with
  | false => rfl
  | true =>
    rw [inB_t] at hb
    have hv := vB_len (v := T.length) (by omega)
    have h4 : ∀ x, g_sl02Four x = some (BA (fourT x), ()) := by
      intro x
      show f_sl02Four BIG _ = _
      rw [e_sl02Four, four_eq]; rfl
    simp only [Bool.not_true, cond_false, if_true]
    rw [w_sl01Var T.length (by omega), Option.bind_some, w_sSumOf T hl, Option.bind_some, h4, Option.bind_some]
    simp only [BA_app, BA_size, List.length_append, four_len]
    rw [decide_eq_true (show (vB T.length).length + 4 ≤ 4611686018427387904 from by omega), decide_eq_true (show (vB T.length).length + 4 + T.length ≤ 4611686018427387904 from by omega)]
    rfl
abbrev Act' := Int × ByteArray × ByteArray × ByteArray
theorem ex_lmarkText (k : Int) (h : k ≤ 4611686018427387800) : ∃ t, g_lmarkText k = some (t, ()) := by
  have e : g_lmarkText k = f_lmarkText BIG k := rfl
  rw [e, e_lmarkText]
  by_cases h0 : k ≤ 0
  · rw [decide_eq_true h0, cond_true]; exact ⟨_, rfl⟩
  · rw [decide_eq_false h0, cond_false]
    have L := loop_rel (B := ByteArray) (F := fun self1 (x0 : ByteArray × Int) =>
      bif decide ((0 : Int) < x0.2) then
       bif decide ((10 : Int) = 0) then
        none
       else bif decide ((bytesStr ([IntKind.wrap .u8 (IntKind.wrap .i64 ((48 : Int) + (Int.tmod x0.2 (10 : Int))))])).size + x0.1.size ≤ 4611686018427387904) then
        bif decide ((10 : Int) = 0) then
         none
        else self1 ((bytesStr ([IntKind.wrap .u8 (IntKind.wrap .i64 ((48 : Int) + (Int.tmod x0.2 (10 : Int))))])) ++ x0.1, IntKind.wrap .i64 (Int.tdiv x0.2 (10 : Int)))
       else none
      else some x0.1) (fun x => 0 ≤ x.2 ∧ (x.1.size : Int) + x.2 ≤ k) (fun x => x.2.toNat) (fun _ b => (b.size : Int) ≤ k) (fun self x ⟨a1, a2⟩ hs => ?_) (n := BIG) (x := ((ByteArray.mk #[]), k)) (by simp [BIG]; omega) ⟨by simp only; omega, by simp only; exact Int.le_of_eq (Int.zero_add k)⟩
    · obtain ⟨b, b1, b2⟩ := L
      rw [b1, Option.bind_some]
      have hb : (ByteArray.mk #[109]).size = 1 := rfl
      rw [hb, decide_eq_true (by omega), cond_true]
      exact ⟨_, rfl⟩
    · obtain ⟨s, x⟩ := x
      simp only at a1 a2 hs ⊢
      by_cases hx : 0 < x
      · rw [decide_eq_true hx, cond_true, by_1, ← BA_data s, BA_app, BA_size, BA_size]
        have hsz : s.size = s.data.toList.length := by
          have := congrArg ByteArray.size (BA_data s)
          rw [BA_size] at this; exact this.symm
        rw [hsz] at a2
        rw [Int.tdiv_eq_ediv_of_nonneg (by omega), wr (n := x / 10) (by omega) (by omega), decide_eq_true (show [by8 (IntKind.wrap .i64 ((48 : Int) + (Int.tmod x (10 : Int))))].length + s.data.toList.length ≤ 4611686018427387904 from by simp only [List.length_cons, List.length_nil]; omega)]
        simp only [show decide ((10 : Int) = 0) = false from rfl, cond_false, cond_true]
        refine hs _ ⟨?_, ?_⟩ ?_
        · simp only; omega
        · simp only [BA_size, List.length_append, List.length_cons, List.length_nil]; omega
        · simp only; omega
      · rw [decide_eq_false hx, cond_false]
        exact ⟨_, rfl, by omega⟩
open Classical in
noncomputable def mTx (k : Int) : ByteArray := if h : k ≤ 4611686018427387800 then (ex_lmarkText k h).choose else ByteArray.empty
theorem m_lmarkText (k : Int) (h : k ≤ 4611686018427387800) : g_lmarkText k = some (mTx k, ()) := by
  unfold mTx
  rw [dif_pos h]
  exact (ex_lmarkText k h).choose_spec
abbrev Fl := ByteArray × ByteArray × Int
theorem to_FileS (a : List Fl) (h : a.length ≤ 1048576) : g_ltoFileS a = some (a, ()) := by
  have hm : maxLen = 9223372036854775807 := by decide
  show f_ltoFileS BIG _ = _
  rw [e_ltoFileS, decide_eq_true (by omega), cond_true, decide_eq_true (by simp; omega), cond_true]
  simp only [Int.toNat_natCast]
  rw [cpLoop a (by omega)]
  · rfl
  · intro self out i y hl hy
    have hi := (List.getElem?_eq_some_iff.1 hy).1
    simp only [show ((i : Int) < (a.length : Int)) from by omega, decide_true, cond_true]
    have e : g_ltoFile y = some (y, ()) := by
      show f_ltoFile BIG _ = _
      rw [e_ltoFile]
    rw [bnd_nat hi, hy, Option.bind_some, e, Option.bind_some]
    rw [bnd_nat (by omega), List.getElem?_eq_getElem (by omega), Option.bind_some, wr1 (by omega)]
  · intro self out hl
    simp
theorem to_Disk (a : List Fl) (h : a.length ≤ 1048576) : g_ltoDisk a = some (a, ()) := by
  show f_ltoDisk BIG _ = _
  rw [e_ltoDisk, to_FileS a h]; rfl
theorem eq_FileS (a : List Fl) (h : a.length ≤ 1048576) : g_leqFileS (a, a) = some (true, ()) := by
  have hm : maxLen = 9223372036854775807 := by decide
  show f_leqFileS BIG _ = _
  rw [e_leqFileS, decide_eq_true rfl, Bool.not_true, cond_false, allLoop a (by omega) (fun _ => true) false]
  · rw [if_pos (fun _ _ => rfl)]; rfl
  · intro self i y hy
    have hi := (List.getElem?_eq_some_iff.1 hy).1
    have e : g_leqFile (y, y) = some (true, ()) := by
      show f_leqFile BIG _ = _
      rw [e_leqFile]; simp
    simp only [show ((i : Int) < (a.length : Int)) from by omega, decide_true, cond_true]
    rw [bnd_nat hi, hy, Option.bind_some, bnd_nat hi, hy, Option.bind_some, e, Option.bind_some, wr1 (by omega)]
    rfl
  · intro self; simp
theorem eq_Disk (a : List Fl) (h : a.length ≤ 1048576) : g_leqDisk (a, a) = some (true, ()) := by
  show f_leqDisk BIG _ = _
  rw [e_leqDisk, eq_FileS a h]; rfl
theorem eq_ActS (a : List Act') (h : a.length ≤ 1048576) : g_leqActS (a, a) = some (true, ()) := by
  have hm : maxLen = 9223372036854775807 := by decide
  show f_leqActS BIG _ = _
  rw [e_leqActS, decide_eq_true rfl, Bool.not_true, cond_false, allLoop a (by omega) (fun _ => true) false]
  · rw [if_pos (fun _ _ => rfl)]; rfl
  · intro self i y hy
    have hi := (List.getElem?_eq_some_iff.1 hy).1
    have e : g_leqAct (y, y) = some (true, ()) := by
      show f_leqAct BIG _ = _
      rw [e_leqAct]; simp
    simp only [show ((i : Int) < (a.length : Int)) from by omega, decide_true, cond_true]
    rw [bnd_nat hi, hy, Option.bind_some, bnd_nat hi, hy, Option.bind_some, e, Option.bind_some, wr1 (by omega)]
    rfl
  · intro self; simp
def hd_FileS (k : Int) (z : Fl) (k' : Int) : Prop := z = (mTx k, mTx (k + 1), k + 1 + 1) ∧ k' = k + 1 + 1 + 1 ∧ 0 ≤ k ∧ k ≤ 4611686018427387000
theorem mk_FileS (a : List Fl) (k : Int) (h0 : 0 ≤ k) (hk : k + 50331648 ≤ 4611686018427387000) (hz : a.length ≤ 16777216) : ∃ t c, g_lmarkFileS (a, k) = some (c, t) ∧ k ≤ c ∧ c ≤ k + 50331648 := by
  have hm : maxLen = 9223372036854775807 := by decide
  have L := mkLoop hd_FileS 3 (by omega) a k (by omega) (F := fun self1 x0 =>
    bif decide (x0.2.2 < (x0.1.length : Int)) then
     Option.bind (g_lmarkText x0.2.1) fun r2 =>
     bnd x0.1.length x0.2.2 fun n3 =>
     Option.bind x0.1[n3]? fun y4 =>
     Option.bind (g_lmarkText (IntKind.wrap .i64 (x0.2.1 + (1 : Int)))) fun r5 =>
     bnd (x0.1.set n3 (r2.1, y4.2)).length x0.2.2 fun n6 =>
     Option.bind (x0.1.set n3 (r2.1, y4.2))[n6]? fun y7 =>
     bnd ((x0.1.set n3 (r2.1, y4.2)).set n6 (y7.1, r5.1, y7.2.2)).length x0.2.2 fun n8 =>
     Option.bind ((x0.1.set n3 (r2.1, y4.2)).set n6 (y7.1, r5.1, y7.2.2))[n8]? fun y9 =>
     self1 (((x0.1.set n3 (r2.1, y4.2)).set n6 (y7.1, r5.1, y7.2.2)).set n8 (y9.1, y9.2.1, IntKind.wrap .i64 ((IntKind.wrap .i64 (x0.2.1 + (1 : Int))) + (1 : Int))), IntKind.wrap .i64 ((IntKind.wrap .i64 ((IntKind.wrap .i64 (x0.2.1 + (1 : Int))) + (1 : Int))) + (1 : Int)), IntKind.wrap .i64 (x0.2.2 + (1 : Int)))
    else some (x0.1, x0.2.1)) (by
    intro self out i k y hi hl hy _ hk0 hk1
    have hi' : i < out.length := by omega
    have w1 : IntKind.wrap .i64 (k + 1) = k + 1 := wr (by omega) (by omega)
    have w2 : IntKind.wrap .i64 (k + 1 + 1) = k + 1 + 1 := wr (by omega) (by omega)
    have w3 : IntKind.wrap .i64 (k + 1 + 1 + 1) = k + 1 + 1 + 1 := wr (by omega) (by omega)
    have t1 := m_lmarkText k (by omega)
    have t2 := m_lmarkText (k + 1) (by omega)
    refine ⟨(mTx k, mTx (k + 1), k + 1 + 1), k + 1 + 1 + 1, ⟨rfl, rfl, by omega, by omega⟩, by omega, by omega, ?_⟩
    simp only [hl, show ((i : Int) < (a.length : Int)) from by omega, decide_true, cond_true, List.length_set, bnd_nat hi, hy, List.getElem?_set_self hi', Option.bind_some, List.set_set, w1, w2, w3, t1, t2, and_true]
    rw [wr1 (by omega)]) (by
    intro self out k hl
    simp [hl])
  obtain ⟨t, c, e1, e2, e3, e4, e5⟩ := L
  refine ⟨t, c, ?_, e4, by omega⟩
  show f_lmarkFileS BIG _ = _
  rw [e_lmarkFileS, e1]
  rfl
def hd_ActS (k : Int) (z : Act') (k' : Int) : Prop := z = (k, mTx (k + 1), mTx (k + 1 + 1), mTx (k + 1 + 1 + 1)) ∧ k' = k + 1 + 1 + 1 + 1 ∧ 0 ≤ k ∧ k ≤ 4611686018427387000
theorem mh_ActS (a : List Act') (k : Int) (h0 : 0 ≤ k) (hk : k + 67108864 ≤ 4611686018427387000) (hz : a.length ≤ 16777216) : ∃ t c, g_lmarkActS (a, k) = some (c, t) ∧ g_lheldActS (t, k) = some (c, ()) ∧ k ≤ c ∧ c ≤ k + 67108864 := by
  have hm : maxLen = 9223372036854775807 := by decide
  have L := mkLoop hd_ActS 4 (by omega) a k (by omega) (F := fun self1 x0 =>
    bif decide (x0.2.2 < (x0.1.length : Int)) then
     bnd x0.1.length x0.2.2 fun n2 =>
     Option.bind x0.1[n2]? fun y3 =>
     Option.bind (g_lmarkText (IntKind.wrap .i64 (x0.2.1 + (1 : Int)))) fun r4 =>
     bnd (x0.1.set n2 (x0.2.1, y3.2)).length x0.2.2 fun n5 =>
     Option.bind (x0.1.set n2 (x0.2.1, y3.2))[n5]? fun y6 =>
     Option.bind (g_lmarkText (IntKind.wrap .i64 ((IntKind.wrap .i64 (x0.2.1 + (1 : Int))) + (1 : Int)))) fun r7 =>
     bnd ((x0.1.set n2 (x0.2.1, y3.2)).set n5 (y6.1, r4.1, y6.2.2)).length x0.2.2 fun n8 =>
     Option.bind ((x0.1.set n2 (x0.2.1, y3.2)).set n5 (y6.1, r4.1, y6.2.2))[n8]? fun y9 =>
     Option.bind (g_lmarkText (IntKind.wrap .i64 ((IntKind.wrap .i64 ((IntKind.wrap .i64 (x0.2.1 + (1 : Int))) + (1 : Int))) + (1 : Int)))) fun r10 =>
     bnd (((x0.1.set n2 (x0.2.1, y3.2)).set n5 (y6.1, r4.1, y6.2.2)).set n8 (y9.1, y9.2.1, r7.1, y9.2.2.2)).length x0.2.2 fun n11 =>
     Option.bind (((x0.1.set n2 (x0.2.1, y3.2)).set n5 (y6.1, r4.1, y6.2.2)).set n8 (y9.1, y9.2.1, r7.1, y9.2.2.2))[n11]? fun y12 =>
     self1 ((((x0.1.set n2 (x0.2.1, y3.2)).set n5 (y6.1, r4.1, y6.2.2)).set n8 (y9.1, y9.2.1, r7.1, y9.2.2.2)).set n11 (y12.1, y12.2.1, y12.2.2.1, r10.1), IntKind.wrap .i64 ((IntKind.wrap .i64 ((IntKind.wrap .i64 ((IntKind.wrap .i64 (x0.2.1 + (1 : Int))) + (1 : Int))) + (1 : Int))) + (1 : Int)), IntKind.wrap .i64 (x0.2.2 + (1 : Int)))
    else some (x0.1, x0.2.1)) (by
    intro self out i k y hi hl hy _ hk0 hk1
    have hi' : i < out.length := by omega
    have w1 : IntKind.wrap .i64 (k + 1) = k + 1 := wr (by omega) (by omega)
    have w2 : IntKind.wrap .i64 (k + 1 + 1) = k + 1 + 1 := wr (by omega) (by omega)
    have w3 : IntKind.wrap .i64 (k + 1 + 1 + 1) = k + 1 + 1 + 1 := wr (by omega) (by omega)
    have w4 : IntKind.wrap .i64 (k + 1 + 1 + 1 + 1) = k + 1 + 1 + 1 + 1 := wr (by omega) (by omega)
    have t1 := m_lmarkText (k + 1) (by omega)
    have t2 := m_lmarkText (k + 1 + 1) (by omega)
    have t3 := m_lmarkText (k + 1 + 1 + 1) (by omega)
    refine ⟨(k, mTx (k + 1), mTx (k + 1 + 1), mTx (k + 1 + 1 + 1)), k + 1 + 1 + 1 + 1, ⟨rfl, rfl, by omega, by omega⟩, by omega, by omega, ?_⟩
    simp only [hl, show ((i : Int) < (a.length : Int)) from by omega, decide_true, cond_true, List.length_set, bnd_nat hi, hy, List.getElem?_set_self hi', Option.bind_some, List.set_set, w1, w2, w3, w4, t1, t2, t3, and_true]
    rw [wr1 (by omega)]) (by
    intro self out k hl
    simp [hl])
  obtain ⟨t, c, e1, e2, e3, e4, e5⟩ := L
  refine ⟨t, c, ?_, ?_, e4, by omega⟩
  · show f_lmarkActS BIG _ = _
    rw [e_lmarkActS, e1]
    rfl
  · show f_lheldActS BIG _ = _
    rw [e_lheldActS, hdLoop hd_ActS t k c (by omega) e2]
    · rfl
    · intro self i kk kk' z hz ⟨g1, g2, g3, g4⟩
      subst g2
      rw [g1] at hz
      have hi := (List.getElem?_eq_some_iff.1 hz).1
      have w1 : IntKind.wrap .i64 (kk + 1) = kk + 1 := wr (by omega) (by omega)
      have w2 : IntKind.wrap .i64 (kk + 1 + 1) = kk + 1 + 1 := wr (by omega) (by omega)
      have w3 : IntKind.wrap .i64 (kk + 1 + 1 + 1) = kk + 1 + 1 + 1 := wr (by omega) (by omega)
      have w4 : IntKind.wrap .i64 (kk + 1 + 1 + 1 + 1) = kk + 1 + 1 + 1 + 1 := wr (by omega) (by omega)
      have t1 := m_lmarkText (kk + 1) (by omega)
      have t2 := m_lmarkText (kk + 1 + 1) (by omega)
      have t3 := m_lmarkText (kk + 1 + 1 + 1) (by omega)
      simp only [show ((i : Int) < (t.length : Int)) from by omega, decide_true, cond_true, bnd_nat hi, hz, Option.bind_some, w1, w2, w3, w4, t1, t2, t3, Bool.not_true, cond_false, beq_self_eq_true]
      rw [wr1 (by omega)]
    · intro self k
      simp
def zFl (y : Fl) : Nat := y.1.size + y.2.1.size
def zFS (a : List Fl) : Nat := a.length + (a.map zFl).sum
theorem sz_FileS (a : List Fl) (l : Int) (h0 : 0 ≤ l) (h1 : l ≤ 1048576) (ha : a.length ≤ maxLen ∧ ∀ y, y ∈ a → y.1.size ≤ maxLen ∧ y.2.1.size ≤ maxLen) : g_lszFileS (a, l) = some (if ((zFS a : Nat) : Int) ≤ l then l - (zFS a : Nat) else -1, ()) := by
  have hm : maxLen = 9223372036854775807 := by decide
  have h2 := ha.1
  show f_lszFileS BIG _ = _
  rw [e_lszFileS, wr (by omega) (by omega)]
  unfold zFS
  by_cases h : ((a.length : Nat) : Int) ≤ l
  · rw [decide_eq_false (by omega), cond_false, szLoop a zFl (-1) (l - a.length) (by omega) (by omega) (by omega)]
    · by_cases hq : ((a.map zFl).sum : Int) ≤ l - a.length
      · rw [if_pos hq, if_pos (by omega)]
        simp only [Option.bind_some]
        rw [show l - (a.length : Int) - ((a.map zFl).sum : Nat) = l - ((a.length + (a.map zFl).sum : Nat) : Int) from by omega]
      · rw [if_neg hq, if_neg (by omega)]; rfl
    · intro self i l y hy l0 l1
      have hi := (List.getElem?_eq_some_iff.1 hy).1
      have hb := ha.2 y (List.mem_of_getElem? hy)
      simp only [show ((i : Int) < (a.length : Int)) from by omega, decide_true, cond_true]
      have e : g_lszFile (y, l) = some (if (zFl y : Int) ≤ l then l - zFl y else -1, ()) := by
        show f_lszFile BIG _ = _
        rw [e_lszFile, wr (n := l - (y.1.size : Int)) (by omega) (by omega)]
        unfold zFl
        by_cases c1 : l - (y.1.size : Int) < 0
        · rw [decide_eq_true c1, if_neg (by omega)]; rfl
        · rw [decide_eq_false c1, cond_false, wr (n := l - (y.1.size : Int) - (y.2.1.size : Int)) (by omega) (by omega)]
          by_cases c2 : l - (y.1.size : Int) - (y.2.1.size : Int) < 0
          · rw [decide_eq_true c2, if_neg (by omega)]; rfl
          · rw [decide_eq_false c2, if_pos (by omega), cond_false, show l - (y.1.size : Int) - (y.2.1.size : Int) = l - ((y.1.size + y.2.1.size : Nat) : Int) from by omega]
      rw [bnd_nat hi, hy, Option.bind_some, e, Option.bind_some]
      by_cases c : (zFl y : Int) ≤ l
      · rw [if_pos c, if_pos c, decide_eq_false (by omega), cond_false, wr1 (by omega)]
      · rw [if_neg c, if_neg c]; rfl
    · intro self l; simp
  · rw [decide_eq_true (by omega), cond_true, if_neg (by omega)]
theorem sz_Disk (a : List Fl) (l : Int) (h0 : 0 ≤ l) (h1 : l ≤ 1048576) (ha : a.length ≤ maxLen ∧ ∀ y, y ∈ a → y.1.size ≤ maxLen ∧ y.2.1.size ≤ maxLen) : g_lszDisk (a, l) = some (if ((zFS a : Nat) : Int) ≤ l then l - (zFS a : Nat) else -1, ()) := by
  show f_lszDisk BIG _ = _
  rw [e_lszDisk, sz_FileS a l h0 h1 ha, Option.bind_some]
  by_cases c : ((zFS a : Nat) : Int) ≤ l
  · rw [if_pos c, decide_eq_false (by omega), cond_false]
  · rw [if_neg c]; rfl
def fU (T : List UInt8) (a m v : Nat) : List UInt8 := (T.drop (a + m + 4)).take v
/-- The frame that begins at a place: its text, and the place behind it. -/
def fA (T : List UInt8) (a : Nat) : Option (List UInt8 × Nat) :=
  match rdV (T.drop a) with
  | none => none
  | some (v, m) => if (1 ≤ v ∧ v ≤ 9000) ∧ a + m + 4 + v ≤ T.length ∧ frT (fU T a m v) = some ((T.drop a).take (m + 4 + v)) then some (fU T a m v, a + m + 4 + v) else none
def faR : Option (List UInt8 × Nat) → ByteArray × Int × Bool
  | some (U, b) => (BA U, (b : Int), true)
  | none => (BA [], 0, false)
theorem fU_len {T : List UInt8} {a m v : Nat} (h : a + m + 4 + v ≤ T.length) : (fU T a m v).length = v := by
  unfold fU
  rw [List.length_take, List.length_drop]; omega
theorem w_iframeAt (T : List UInt8) (a : Nat) (ha : a ≤ T.length) (hl : T.length ≤ 20000) : g_iframeAt (BA T, (a : Int)) = some (faR (fA T a), ()) := by
  show f_iframeAt BIG _ = _
  rw [e_iframeAt, w_iReadVar T _ (by omega), BA_size]
  unfold rvR fA
  rw [show inB (a : Int) 0 (T.length : Int) = true from inB_t.2 (by omega), if_pos rfl, Int.toNat_natCast]
  cases hr : rdV (T.drop a) with
  | none => rfl
  | some x =>
    obtain ⟨v, m⟩ := x
    have hin := rdV_in hr
    rw [List.length_drop] at hin
    simp only [Option.bind_some, Bool.not_true, cond_false, h_iin']
    cases hv : inB (v : Int) 1 9000 with
    | false =>
      rw [if_neg]
      · rfl
      · intro h
        have : inB (v : Int) 1 9000 = true := inB_t.2 (by omega)
        rw [hv] at this; cases this
    | true =>
      rw [inB_t] at hv
      simp only [Bool.not_true, cond_false, Option.bind_some]
      rw [wr (n := (T.length : Int) - ((a : Int) + (m : Int))) (by omega) (by omega), wr (n := (4 : Int) + (v : Int)) (by omega) (by omega)]
      by_cases hc : a + m + 4 + v ≤ T.length
      · rw [decide_eq_false (by omega), cond_false]
        rw [wr (n := (a : Int) + (m : Int) + 4) (by omega) (by omega), wr (n := (a : Int) + (m : Int) + 4 + (v : Int)) (by omega) (by omega), decide_eq_true (by omega), cond_true, decide_eq_true (by omega)]
        simp only [cond_true, BA_ext]
        rw [show ((a : Int) + (m : Int) + 4 + (v : Int)).toNat = a + m + 4 + v from by omega, show ((a : Int) + (m : Int) + 4).toNat = a + m + 4 from by omega, show a + m + 4 + v - (a + m + 4) = v from by omega, show a + m + 4 + v - a = m + 4 + v from by omega]
        have hU := fU_len hc
        have hf : g_iFrame (BA (fU T a m v)) = some (txR (frT (fU T a m v)), ()) := w_iFrame _ (by omega)
        unfold fU at hf hU ⊢
        rw [hf, Option.bind_some]
        have hs : ∃ u, frT ((T.drop (a + m + 4)).take v) = some u := by
          unfold frT
          rw [hU, show inB (v : Int) 1 9000 = true from inB_t.2 (by omega)]
          exact ⟨_, rfl⟩
        obtain ⟨u, hu⟩ := hs
        rw [hu]
        simp only [txR, BA_toList]
        by_cases he : u = (T.drop a).take (m + 4 + v)
        · rw [if_pos ⟨by omega, hc, by rw [he]⟩, he]
          simp only [beq_self_eq_true, Bool.not_true, cond_false, faR]
          rw [show ((a + m + 4 + v : Nat) : Int) = (a : Int) + (m : Int) + 4 + (v : Int) from by omega]
        · have hb : (u == (T.drop a).take (m + 4 + v)) = false := beq_eq_false_iff_ne.2 he
          rw [if_neg (fun h => he (Option.some.inj h.2.2)), hb]; rfl
      · rw [decide_eq_true (by omega), if_neg (fun h => hc h.2.1)]; rfl
theorem fA_in {T : List UInt8} {a : Nat} {U : List UInt8} {b : Nat} (h : fA T a = some (U, b)) : a < b ∧ b ≤ T.length ∧ frT U = some ((T.drop a).take (b - a)) ∧ 1 ≤ U.length ∧ U.length ≤ 9000 := by
  unfold fA at h
  cases hr : rdV (T.drop a) with
  | none => rw [hr] at h; cases h
  | some x =>
    obtain ⟨v, m⟩ := x
    rw [hr] at h
    simp only at h
    split at h
    · rename_i hc
      have h := Option.some.inj h
      have h1 := congrArg Prod.fst h
      have h2 := congrArg Prod.snd h
      simp only at h1 h2
      subst h1 h2
      have := fU_len hc.2.1
      refine ⟨by omega, hc.2.1, ?_, by omega, by omega⟩
      rw [show a + m + 4 + v - a = m + 4 + v from by omega]
      exact hc.2.2
    · cases h
/-- The frames from a place on, and the place behind the last of them. -/
def ufL (T : List UInt8) : Nat → Nat → List (List UInt8) × Nat
  | 0, a => ([], a)
  | k + 1, a => match fA T a with
    | some (U, b) => (U :: (ufL T k b).1, (ufL T k b).2)
    | none => ([], a)
theorem ufL_eq (T : List UInt8) : ∀ (k k' a : Nat), T.length + 1 - a ≤ k → T.length + 1 - a ≤ k' → a ≤ T.length → ufL T k a = ufL T k' a
  | 0, _, a, h, _, ha => by omega
  | _ + 1, 0, a, _, h, ha => by omega
  | k + 1, k' + 1, a, h, h', ha => by
    unfold ufL
    cases hf : fA T a with
    | none => rfl
    | some x =>
      obtain ⟨U, b⟩ := x
      have := fA_in hf
      simp only
      rw [ufL_eq T k k' b (by omega) (by omega) this.2.1]
def uf (T : List UInt8) (a : Nat) : List (List UInt8) × Nat := ufL T (T.length + 1) a
theorem uf_none {T : List UInt8} {a : Nat} (h : fA T a = none) : uf T a = ([], a) := by
  unfold uf ufL
  rw [h]
theorem uf_some {T : List UInt8} {a b : Nat} {U : List UInt8} (h : fA T a = some (U, b)) : uf T a = (U :: (uf T b).1, (uf T b).2) := by
  have := fA_in h
  unfold uf
  rw [show ufL T (T.length + 1) a = (U :: (ufL T T.length b).1, (ufL T T.length b).2) from by
    rw [ufL, h]]
  rw [ufL_eq T T.length (T.length + 1) b (by omega) (by omega) this.2.1]
theorem uf_end {T : List UInt8} {a : Nat} (h : T.length ≤ a) : fA T a = none := by
  cases hf : fA T a with
  | none => rfl
  | some x =>
    obtain ⟨U, b⟩ := x
    have := fA_in hf
    omega
theorem w_sUnframe (T : List UInt8) (hl : T.length ≤ 20000) : g_sUnframe (BA T) = some ((((uf T 0).1.map BA, ((uf T 0).2 : Int))), ()) := by
  have hm : maxLen = 9223372036854775807 := by decide
  show f_sUnframe BIG _ = _
  rw [e_sUnframe, BA_size, decide_eq_false (by omega), cond_false]
  have L := loop_rel (B := (List ByteArray × Int) ⊕ (List ByteArray × Int)) (F := fun self1 (x0 : List ByteArray × Int) =>
    bif decide (x0.2 < (T.length : Int)) then
     Option.bind (g_sReadVar (BA T, x0.2)) fun r2 =>
     Option.bind (bif !r2.1.2.2 then
       some true
      else some (decide ((IntKind.wrap .i64 ((IntKind.wrap .i64 ((T.length : Int) - r2.1.2.1)) - (4 : Int))) < r2.1.1)) : Option (Bool)) fun x3 =>
     bif x3 then
      some (Sum.inr (x0.1, x0.2))
     else bif decide (0 ≤ (IntKind.wrap .i64 (r2.1.2.1 + (4 : Int))) ∧ (IntKind.wrap .i64 (r2.1.2.1 + (4 : Int))) ≤ (IntKind.wrap .i64 ((IntKind.wrap .i64 (r2.1.2.1 + (4 : Int))) + r2.1.1)) ∧ (IntKind.wrap .i64 ((IntKind.wrap .i64 (r2.1.2.1 + (4 : Int))) + r2.1.1)) ≤ T.length) then
      Option.bind (g_sFrame ((BA T).extract (Int.toNat (IntKind.wrap .i64 (r2.1.2.1 + (4 : Int)))) (Int.toNat (IntKind.wrap .i64 ((IntKind.wrap .i64 (r2.1.2.1 + (4 : Int))) + r2.1.1))))) fun r4 =>
      Option.bind (bif !r4.1.2 then
        some true
       else bif decide (0 ≤ x0.2 ∧ x0.2 ≤ (IntKind.wrap .i64 ((IntKind.wrap .i64 (r2.1.2.1 + (4 : Int))) + r2.1.1)) ∧ (IntKind.wrap .i64 ((IntKind.wrap .i64 (r2.1.2.1 + (4 : Int))) + r2.1.1)) ≤ T.length) then
        some (!(r4.1.1.toList == ((BA T).extract (Int.toNat x0.2) (Int.toNat (IntKind.wrap .i64 ((IntKind.wrap .i64 (r2.1.2.1 + (4 : Int))) + r2.1.1)))).toList))
       else none : Option (Bool)) fun x5 =>
      bif x5 then
       some (Sum.inr (x0.1, x0.2))
      else bif decide (x0.1.length + ([(BA T).extract (Int.toNat (IntKind.wrap .i64 (r2.1.2.1 + (4 : Int)))) (Int.toNat (IntKind.wrap .i64 ((IntKind.wrap .i64 (r2.1.2.1 + (4 : Int))) + r2.1.1)))]).length ≤ 4294967296) then
       self1 (x0.1 ++ ([(BA T).extract (Int.toNat (IntKind.wrap .i64 (r2.1.2.1 + (4 : Int)))) (Int.toNat (IntKind.wrap .i64 ((IntKind.wrap .i64 (r2.1.2.1 + (4 : Int))) + r2.1.1)))]), IntKind.wrap .i64 ((IntKind.wrap .i64 (r2.1.2.1 + (4 : Int))) + r2.1.1))
      else none
     else none
    else some (Sum.inl (x0.1, x0.2)))
    (fun x => ∃ a : Nat, x.2 = (a : Int) ∧ a ≤ T.length ∧ x.1.length ≤ a) (fun x => T.length - x.2.toNat) (fun x r => ∀ a : Nat, x.2 = (a : Int) → r = .inl (x.1 ++ (uf T a).1.map BA, ((uf T a).2 : Int)) ∨ r = .inr (x.1 ++ (uf T a).1.map BA, ((uf T a).2 : Int))) (fun self x ⟨a, a1, a2, a3⟩ hs => ?_) (n := BIG) (x := ([], 0)) (by simp [BIG]; omega) ⟨0, rfl, by omega, by simp⟩
  · obtain ⟨r, h1, h2⟩ := L
    rw [h1]
    rcases h2 0 rfl with rfl | rfl <;> simp
  · obtain ⟨out, p⟩ := x
    simp only at a1 a2 a3 hs ⊢
    subst a1
    have stop : fA T a = none → out ++ (uf T a).1.map BA = out ∧ (((uf T a).2 : Nat) : Int) = (a : Int) := fun h => by rw [uf_none h]; simp
    by_cases hlt : a < T.length
    · rw [decide_eq_true (by omega), cond_true, w_sReadVar T _ (by omega), Option.bind_some]
      unfold rvR
      rw [show inB (a : Int) 0 (T.length : Int) = true from inB_t.2 (by omega), if_pos rfl, Int.toNat_natCast]
      cases hr : rdV (T.drop a) with
      | none =>
        have hf : fA T a = none := by unfold fA; rw [hr]
        refine ⟨_, rfl, fun b hb => .inr ?_⟩
        have : a = b := by omega
        subst this
        rw [(stop hf).1, (stop hf).2]
      | some x =>
        obtain ⟨v, m⟩ := x
        have hin := rdV_in hr
        rw [List.length_drop] at hin
        simp only [Bool.not_true, cond_false, Option.bind_some]
        rw [wr (n := (T.length : Int) - ((a : Int) + (m : Int))) (by omega) (by omega), wr (n := (T.length : Int) - ((a : Int) + (m : Int)) - 4) (by omega) (by omega)]
        by_cases hc : a + m + 4 + v ≤ T.length
        · rw [decide_eq_false (by omega), cond_false]
          rw [wr (n := (a : Int) + (m : Int) + 4) (by omega) (by omega), wr (n := (a : Int) + (m : Int) + 4 + (v : Int)) (by omega) (by omega), decide_eq_true (by omega), cond_true, decide_eq_true (by omega)]
          simp only [cond_true, BA_ext]
          rw [show ((a : Int) + (m : Int) + 4 + (v : Int)).toNat = a + m + 4 + v from by omega, show ((a : Int) + (m : Int) + 4).toNat = a + m + 4 from by omega, show a + m + 4 + v - (a + m + 4) = v from by omega, show a + m + 4 + v - a = m + 4 + v from by omega]
          have hU := fU_len hc
          have hf : g_sFrame (BA (fU T a m v)) = some (txR (frT (fU T a m v)), ()) := w_sFrame _ (by omega)
          have hfA : fA T a = if (1 ≤ v ∧ v ≤ 9000) ∧ a + m + 4 + v ≤ T.length ∧ frT (fU T a m v) = some ((T.drop a).take (m + 4 + v)) then some (fU T a m v, a + m + 4 + v) else none := by unfold fA; rw [hr]
          have hfr : frT (fU T a m v) = some ((T.drop a).take (m + 4 + v)) → (1 ≤ v ∧ v ≤ 9000) := by
            intro h
            unfold frT at h
            split at h
            · rename_i hq
              rw [inB_t, hU] at hq
              omega
            · cases h
          have hD : (T.drop (a + m + 4)).take v = fU T a m v := rfl
          rw [hD, hf, Option.bind_some]
          cases hfu : frT (fU T a m v) with
          | none =>
            have hn : fA T a = none := by rw [hfA, if_neg (fun h => by rw [hfu] at h; cases h.2.2)]
            refine ⟨_, rfl, fun b hb => .inr ?_⟩
            have : a = b := by omega
            subst this
            rw [(stop hn).1, (stop hn).2]
          | some u =>
            simp only [txR, BA_toList, Bool.not_true, cond_false, Option.bind_some]
            by_cases he : u = (T.drop a).take (m + 4 + v)
            · subst he
              have hsm : fA T a = some (fU T a m v, a + m + 4 + v) := by rw [hfA, if_pos ⟨hfr hfu, hc, hfu⟩]
              simp only [beq_self_eq_true, Bool.not_true, cond_false]
              rw [decide_eq_true (show out.length + [BA (fU T a m v)].length ≤ 4294967296 from by simp only [List.length_cons, List.length_nil]; omega), cond_true]
              obtain ⟨r, r1, r2⟩ := hs (out ++ [BA (fU T a m v)], (a : Int) + (m : Int) + 4 + (v : Int)) ⟨a + m + 4 + v, by simp only; omega, hc, by simp only [List.length_append, List.length_cons, List.length_nil]; omega⟩ (by simp only; omega)
              refine ⟨r, r1, fun b hb => ?_⟩
              have : a = b := by omega
              subst this
              have := r2 (a + m + 4 + v) (by simp only; omega)
              rw [uf_some hsm]
              simpa using this
            · have hb : (u == (T.drop a).take (m + 4 + v)) = false := beq_eq_false_iff_ne.2 he
              have hn : fA T a = none := by rw [hfA, if_neg (fun h => by rw [hfu] at h; exact he (Option.some.inj h.2.2))]
              rw [hb]
              refine ⟨_, rfl, fun b hb => .inr ?_⟩
              have : a = b := by omega
              subst this
              rw [(stop hn).1, (stop hn).2]
        · have hn : fA T a = none := by
            unfold fA; rw [hr]; simp only; rw [if_neg (fun h => hc h.2.1)]
          rw [decide_eq_true (by omega)]
          refine ⟨_, rfl, fun b hb => .inr ?_⟩
          have : a = b := by omega
          subst this
          rw [(stop hn).1, (stop hn).2]
    · have hn := uf_end (T := T) (a := a) (by omega)
      rw [decide_eq_false (by omega), cond_false]
      refine ⟨_, rfl, fun b hb => .inl ?_⟩
      have : a = b := by omega
      subst this
      rw [(stop hn).1, (stop hn).2]
def frLen (U : List UInt8) : Nat := match frT U with | some u => u.length | none => 0
/-- The records of texts, up to the first that is none, and the length of their frames. -/
def rdL (n : Int) : List (List UInt8) → List Rc × Nat
  | [] => ([], 0)
  | U :: L => match rcD n U with
    | some r => (r :: (rdL n L).1, frLen U + (rdL n L).2)
    | none => ([], 0)
theorem w_iReadRecs (n : Int) (T : List UInt8) : g_iReadRecs (n, BA T) = some (if T.length ≤ 20000 then ((rdL n (uf T 0).1).1, ((rdL n (uf T 0).1).2 : Int)) else ([], 0), ()) := by
  have hm : maxLen = 9223372036854775807 := by decide
  show f_iReadRecs BIG _ = _
  rw [e_iReadRecs, BA_size]
  by_cases hl : T.length ≤ 20000
  · rw [if_pos hl, decide_eq_false (by omega), cond_false]
    refine (loop_eq (B := (List Rc × Int) × Unit) (fun (x : List Rc × Int) => ∃ a : Nat, x.2 = (a : Int) ∧ a ≤ T.length ∧ x.1.length ≤ a) (fun x => T.length - x.2.toNat) (fun x => ((x.1 ++ (rdL n (uf T x.2.toNat).1).1, x.2 + ((rdL n (uf T x.2.toNat).1).2 : Int)), ())) (fun self x ⟨a, a1, a2, a3⟩ hs => ?_) (n := BIG) (x := ([], 0)) (by simp [BIG]; omega) ⟨0, rfl, by omega, by simp⟩).trans ?_
    · obtain ⟨out, p⟩ := x
      simp only at a1 a2 a3 hs ⊢
      subst a1
      rw [w_iframeAt T a a2 hl, Option.bind_some, Int.toNat_natCast]
      cases hf : fA T a with
      | none =>
        have e : g_iReadRec (n, BA []) = some (rrR (rcD n []), ()) := w_iReadRec n [] (by simp)
        simp only [faR]
        rw [e, uf_none hf]
        simp [rdL]
      | some x =>
        obtain ⟨U, b⟩ := x
        have hin := fA_in hf
        simp only [faR]
        rw [w_iReadRec n U (by omega), uf_some hf]
        simp only [Option.bind_some, Bool.not_true, cond_false, rdL]
        cases hr : rcD n U with
        | none => simp [rrR]
        | some r =>
          have hfl : frLen U = b - a := by
            unfold frLen
            rw [hin.2.2.1]
            simp only [List.length_take, List.length_drop]; omega
          simp only [rrR, Bool.not_true, cond_false]
          rw [decide_eq_true (by simp only [List.length_cons, List.length_nil]; omega), cond_true]
          refine (hs (out ++ [r], (b : Int)) ⟨b, rfl, hin.2.1, by simp; omega⟩ (by simp only; omega)).trans ?_
          simp only [Int.toNat_natCast, hfl, List.append_assoc, List.singleton_append]
          rw [show (b : Int) + ((rdL n (uf T b).1).2 : Int) = (a : Int) + ((b - a + (rdL n (uf T b).1).2 : Nat) : Int) from by omega]
    · simp
  · rw [if_neg hl, decide_eq_true (by omega)]; rfl
theorem uf_mem (T : List UInt8) : ∀ (k a : Nat), T.length - a ≤ k → ∀ U, U ∈ (uf T a).1 → U.length ≤ 9000 ∧ frLen U ≤ 20000 ∨ 20000 < T.length
  | k, a, hk, U, hU => by
    by_cases hl : T.length ≤ 20000
    · left
      cases hf : fA T a with
      | none => rw [uf_none hf] at hU; cases hU
      | some x =>
        obtain ⟨V, b⟩ := x
        have hin := fA_in hf
        rw [uf_some hf] at hU
        rcases List.mem_cons.1 hU with rfl | hU
        · refine ⟨hin.2.2.2.2, ?_⟩
          unfold frLen
          rw [hin.2.2.1]
          simp only [List.length_take, List.length_drop]; omega
        · cases k with
          | zero => omega
          | succ k =>
            rcases uf_mem T k b (by omega) U hU with h | h
            · exact h
            · omega
    · right; omega
theorem uf_len (T : List UInt8) : ∀ (k a : Nat), T.length - a ≤ k → a ≤ T.length → (uf T a).1.length ≤ k
  | k, a, hk, ha => by
    cases hf : fA T a with
    | none => rw [uf_none hf]; simp
    | some x =>
      obtain ⟨V, b⟩ := x
      have hin := fA_in hf
      rw [uf_some hf]
      cases k with
      | zero => omega
      | succ k =>
        have := uf_len T k b (by omega) hin.2.1
        simp only [List.length_cons]; omega
theorem w_sReadRecs_of (n : Int) (T : List UInt8) (L : List (List UInt8)) (e : Int) (hU : g_sUnframe (BA T) = some ((L.map BA, e), ())) (hlen : L.length ≤ 20000) (hmem : ∀ U, U ∈ L → U.length ≤ 9000 ∧ frLen U ≤ 20000) : g_sReadRecs (n, BA T) = some (((rdL n L).1, ((rdL n L).2 : Int)), ()) := by
  have hm : maxLen = 9223372036854775807 := by decide
  show f_sReadRecs BIG _ = _
  rw [e_sReadRecs, hU, Option.bind_some]
  dsimp only
  have hL := loop_rel (B := (List Rc × Int) ⊕ (List Rc × Int)) (F := fun self2 (x1 : List Rc × Int × Int) =>
    bif decide (x1.2.2 < ((L.map BA).length : Int)) then
     bnd (L.map BA).length x1.2.2 fun n3 =>
     Option.bind (L.map BA)[n3]? fun y4 =>
     Option.bind (g_sReadRec (n, y4)) fun r5 =>
     bif !r5.1.2.2.2.2.2.2.2.2.2.2.2.2.2.2 then
      some (Sum.inr (x1.1, x1.2.1))
     else bif decide (x1.1.length + ([((r5.1.1, r5.1.2.1, r5.1.2.2.1, r5.1.2.2.2.1, r5.1.2.2.2.2.1, r5.1.2.2.2.2.2.1, r5.1.2.2.2.2.2.2.1, r5.1.2.2.2.2.2.2.2.1, r5.1.2.2.2.2.2.2.2.2.1, r5.1.2.2.2.2.2.2.2.2.2.1, r5.1.2.2.2.2.2.2.2.2.2.2.1, r5.1.2.2.2.2.2.2.2.2.2.2.2.1, r5.1.2.2.2.2.2.2.2.2.2.2.2.2.1, r5.1.2.2.2.2.2.2.2.2.2.2.2.2.2.1) : Rc)]).length ≤ 4294967296) then
      bnd (L.map BA).length x1.2.2 fun n6 =>
      Option.bind (L.map BA)[n6]? fun y7 =>
      Option.bind (g_sFrame y7) fun r8 =>
      self2 (x1.1 ++ ([((r5.1.1, r5.1.2.1, r5.1.2.2.1, r5.1.2.2.2.1, r5.1.2.2.2.2.1, r5.1.2.2.2.2.2.1, r5.1.2.2.2.2.2.2.1, r5.1.2.2.2.2.2.2.2.1, r5.1.2.2.2.2.2.2.2.2.1, r5.1.2.2.2.2.2.2.2.2.2.1, r5.1.2.2.2.2.2.2.2.2.2.2.1, r5.1.2.2.2.2.2.2.2.2.2.2.2.1, r5.1.2.2.2.2.2.2.2.2.2.2.2.2.1, r5.1.2.2.2.2.2.2.2.2.2.2.2.2.2.1) : Rc)]), IntKind.wrap .i64 (x1.2.1 + (r8.1.1.size : Int)), IntKind.wrap .i64 (x1.2.2 + (1 : Int)))
     else none
    else some (Sum.inl (x1.1, x1.2.1)))
    (fun x => ∃ i : Nat, x.2.2 = (i : Int) ∧ i ≤ L.length ∧ x.1.length ≤ i ∧ 0 ≤ x.2.1 ∧ x.2.1 ≤ 20000 * i) (fun x => L.length - x.2.2.toNat) (fun x r => ∀ i : Nat, x.2.2 = (i : Int) → r = .inl (x.1 ++ (rdL n (L.drop i)).1, x.2.1 + ((rdL n (L.drop i)).2 : Int)) ∨ r = .inr (x.1 ++ (rdL n (L.drop i)).1, x.2.1 + ((rdL n (L.drop i)).2 : Int))) (fun self x ⟨i, a1, a2, a3, a4, a5⟩ hs => ?_) (n := BIG) (x := ([], 0, 0)) (by simp [BIG]; omega) ⟨0, rfl, by omega, by simp, by simp, by simp⟩
  · obtain ⟨r, h1, h2⟩ := hL
    refine (congrArg (fun o => Option.bind o _) h1).trans ?_
    rcases h2 0 rfl with rfl | rfl <;> simp
  · obtain ⟨out, e, j⟩ := x
    simp only at a1 a2 a3 a4 a5 hs ⊢
    subst a1
    by_cases hi : i < L.length
    · have hU : L[i]? = some L[i] := List.getElem?_eq_getElem hi
      have hM : (L.map BA)[i]? = some (BA L[i]) := by rw [List.getElem?_map, hU]; rfl
      have hm1 := hmem L[i] (List.getElem_mem hi)
      have hd : L.drop i = L[i] :: L.drop (i + 1) := List.drop_eq_getElem_cons hi
      rw [decide_eq_true (by rw [List.length_map]; omega), cond_true, bnd_nat (by rw [List.length_map]; omega), hM, Option.bind_some, w_sReadRec n L[i] (by omega), Option.bind_some]
      cases hr : rcD n L[i] with
      | none =>
        refine ⟨_, rfl, fun k hk => .inr ?_⟩
        have : i = k := by omega
        subst this
        rw [hd, rdL, hr]; simp
      | some r =>
        simp only [rrR, Bool.not_true, cond_false]
        rw [decide_eq_true (by simp only [List.length_cons, List.length_nil]; omega), cond_true, bnd_nat (by rw [List.length_map]; omega), hM, Option.bind_some, w_sFrame L[i] (by omega), Option.bind_some]
        have hsz : (txR (frT L[i])).1.size = frLen L[i] := by
          unfold frLen
          cases frT L[i] <;> simp [txR, BA_size]
        simp only
        rw [hsz, wr (by omega) (by omega), wr1 (by omega)]
        obtain ⟨q, q1, q2⟩ := hs (out ++ [r], e + (frLen L[i] : Int), ((i + 1 : Nat) : Int)) ⟨i + 1, rfl, hi, by simp; omega, by simp only; omega, by simp only; omega⟩ (by simp only; omega)
        refine ⟨q, q1, fun k hk => ?_⟩
        have : i = k := by omega
        subst this
        have := q2 (i + 1) rfl
        rw [hd, rdL, hr]
        simp only [List.append_assoc, List.singleton_append] at this ⊢
        rw [show e + ((frLen L[i] + (rdL n (L.drop (i + 1))).2 : Nat) : Int) = e + (frLen L[i] : Int) + ((rdL n (L.drop (i + 1))).2 : Int) from by omega]
        exact this
    · have : i = L.length := by omega
      subst this
      rw [decide_eq_false (by rw [List.length_map]; omega), cond_false]
      refine ⟨_, rfl, fun k hk => .inl ?_⟩
      have : L.length = k := by omega
      subst this
      rw [List.drop_length, rdL]; simp
theorem w_sUnframe_long (T : List UInt8) (hl : 20000 < T.length) : g_sUnframe (BA T) = some (([], 0), ()) := by
  show f_sUnframe BIG _ = _
  rw [e_sUnframe, BA_size, decide_eq_true (by omega), cond_true]
def rdR (n : Int) (T : List UInt8) : List Rc × Int := if T.length ≤ 20000 then ((rdL n (uf T 0).1).1, ((rdL n (uf T 0).1).2 : Int)) else ([], 0)
theorem w_sReadRecs (n : Int) (T : List UInt8) : g_sReadRecs (n, BA T) = some (rdR n T, ()) := by
  unfold rdR
  by_cases hl : T.length ≤ 20000
  · rw [if_pos hl]
    have hlen := uf_len T T.length 0 (by omega) (by omega)
    refine w_sReadRecs_of n T (uf T 0).1 _ (w_sUnframe T hl) (by omega) fun U hU => ?_
    rcases uf_mem T T.length 0 (by omega) U hU with h | h
    · exact h
    · omega
  · rw [if_neg hl]
    have := w_sReadRecs_of n T [] 0 (w_sUnframe_long T (by omega)) (by simp) (fun U hU => by cases hU)
    simpa [rdL] using this
def fQ (a : List Fl) (i : Nat) (y : Fl) : Bool := inB (y.1.size : Int) 1 8 && (decide (y.2.1.size ≤ 20000) && (inB y.2.2 0 (y.2.1.size : Int) && (if i = 0 then true else Op.bytesLess (a.getD (i - 1) (ByteArray.empty, ByteArray.empty, 0)).1.toList y.1.toList)))
def fP (a : List Fl) (i : Nat) : Bool := fQ a i (a.getD i (ByteArray.empty, ByteArray.empty, 0))
abbrev dkP (a : List Fl) : Prop := ∀ i, i < a.length → fP a i = true
def dkB (a : List Fl) : Bool := if dkP a then decide ((a.length : Int) ≤ 30) else false
theorem fP_at {a : List Fl} {i : Nat} {y : Fl} (h : a[i]? = some y) : fP a i = fQ a i y := by unfold fP; rw [gD h]
theorem w_sl03Name (b : ByteArray) : g_sl03Name b = some (inB (b.size : Int) 1 8, ()) := by
  show f_sl03Name BIG _ = _
  rw [e_sl03Name, h_sl01In']; rfl
theorem dkStep (a : List Fl) (hl : a.length ≤ 1048576) (self : Int → Option (Unit ⊕ Bool)) (b : Bool) (i : Nat) (y : Fl) (hy : a[i]? = some y) {c1 c2 : Option (Bool × Unit)} (h1 : c1 = some (inB (y.1.size : Int) 1 8, ())) (h2 : c2 = some (inB y.2.2 0 (y.2.1.size : Int), ())) :
    Option.bind (Option.bind (Option.bind c1 fun r4 =>
       bif !r4.1 then
        some true
       else bif decide ((20000 : Int) < (y.2.1.size : Int)) then
        some true
       else Option.bind c2 fun r5 =>
       bif !r5.1 then
        some true
       else bif decide ((0 : Int) < (i : Int)) then
        bnd a.length (IntKind.wrap .i64 ((i : Int) - (1 : Int))) fun n6 =>
        Option.bind a[n6]? fun y7 =>
        some (!Op.bytesLess y7.1.toList y.1.toList)
       else some false : Option (Bool)) fun x8 =>
      bif x8 then
       some (Sum.inr b)
      else some (Sum.inl ()) : Option ((Unit) ⊕ (Bool))) (fun y => match y with
     | .inl x9 =>
      self (IntKind.wrap .i64 ((i : Int) + (1 : Int)))
     | .inr x9 =>
      some (Sum.inr x9)) = if fP a i then self ((i + 1 : Nat) : Int) else some (.inr b) := by
  have hm : maxLen = 9223372036854775807 := by decide
  have hi := (List.getElem?_eq_some_iff.1 hy).1
  rw [fP_at hy, h1, h2, wr1 (by omega)]
  unfold fQ
  cases inB (y.1.size : Int) 1 8 with
  | false => simp
  | true =>
    by_cases c2 : (20000 : Int) < (y.2.1.size : Int)
    · rw [decide_eq_true c2, decide_eq_false (show ¬ y.2.1.size ≤ 20000 from by omega)]; simp
    · rw [decide_eq_false c2, decide_eq_true (show y.2.1.size ≤ 20000 from by omega)]
      cases inB y.2.2 0 (y.2.1.size : Int) with
      | false => simp
      | true =>
        cases i with
        | zero => simp
        | succ j =>
          have hj : a[j]? = some (a[j]'(by omega)) := List.getElem?_eq_getElem (by omega)
          rw [decide_eq_true (show (0 : Int) < ((j + 1 : Nat) : Int) from by omega), show (((j + 1 : Nat) : Int) - 1) = (j : Int) from by omega, wr (n := (j : Int)) (by omega) (by omega)]
          simp only [Option.bind_some, Bool.not_true, cond_false, cond_true, Bool.true_and, Nat.succ_ne_zero, if_false, Nat.add_sub_cancel]
          rw [bnd_nat (by omega), hj, gD hj]
          simp only [Option.bind_some]
          cases Op.bytesLess _ y.1.toList <;> simp
theorem w_iDiskOk (a : List Fl) (hl : a.length ≤ 1048576) : g_iDiskOk a = some (dkB a, ()) := by
  have hm : maxLen = 9223372036854775807 := by decide
  show f_iDiskOk BIG _ = _
  rw [e_iDiskOk, allLoop a (by omega) (fP a) false]
  · unfold dkB
    split <;> rfl
  · intro self i y hy
    have hi := (List.getElem?_eq_some_iff.1 hy).1
    simp only [show ((i : Int) < (a.length : Int)) from by omega, decide_true, cond_true]
    rw [bnd_nat hi, hy, Option.bind_some]
    refine Eq.trans ?_ (dkStep a hl self false i y hy (h_iin' _ _ _) (h_iin' _ _ _))
    rfl
  · intro self; simp
theorem w_sDiskOk (a : List Fl) (hl : a.length ≤ 1048576) : g_sDiskOk a = some (dkB a, ()) := by
  have hm : maxLen = 9223372036854775807 := by decide
  show f_sDiskOk BIG _ = _
  rw [e_sDiskOk]
  by_cases h30 : (a.length : Int) ≤ 30
  · rw [decide_eq_false (by omega), cond_false, allLoop a (by omega) (fP a) false]
    · unfold dkB
      split
      · rw [decide_eq_true h30]; rfl
      · rfl
    · intro self i y hy
      have hi := (List.getElem?_eq_some_iff.1 hy).1
      simp only [show ((i : Int) < (a.length : Int)) from by omega, decide_true, cond_true]
      rw [bnd_nat hi, hy, Option.bind_some]
      refine Eq.trans ?_ (dkStep a hl self false i y hy (w_sl03Name _) (h_sl01In' _ _ _))
      rfl
    · intro self; simp
  · rw [decide_eq_true (by omega), cond_true]
    unfold dkB
    rw [decide_eq_false h30]
    split <;> rfl
/-- The place of a file. -/
def fI (a : List Fl) (b : ByteArray) : Int := if a.findIdx (fun y => y.1.toList == b.toList) < a.length then (a.findIdx (fun y => y.1.toList == b.toList) : Int) else -1
theorem w_ifileAt (a : List Fl) (b : ByteArray) (hl : a.length ≤ 1048576) : g_ifileAt (a, b) = some (fI a b, ()) := by
  have hm : maxLen = 9223372036854775807 := by decide
  show f_ifileAt BIG _ = _
  rw [e_ifileAt, fiLoop a (by omega) (fun y => y.1.toList == b.toList)]
  · unfold fI; split <;> rfl
  · intro self i y hy
    have hi := (List.getElem?_eq_some_iff.1 hy).1
    simp only [show ((i : Int) < (a.length : Int)) from by omega, decide_true, cond_true]
    rw [bnd_nat hi, hy, Option.bind_some, wr1 (by omega)]
    cases y.1.toList == b.toList <;> rfl
  · intro self; simp
theorem w_sl03At (a : List Fl) (b : ByteArray) (hl : a.length ≤ 1048576) : g_sl03At (a, b) = some (fI a b, ()) := by
  have hm : maxLen = 9223372036854775807 := by decide
  show f_sl03At BIG _ = _
  rw [e_sl03At, fiLoop a (by omega) (fun y => y.1.toList == b.toList)]
  · unfold fI; split <;> rfl
  · intro self i y hy
    have hi := (List.getElem?_eq_some_iff.1 hy).1
    simp only [show ((i : Int) < (a.length : Int)) from by omega, decide_true, cond_true]
    rw [bnd_nat hi, hy, Option.bind_some, wr1 (by omega)]
    cases y.1.toList == b.toList <;> rfl
  · intro self; simp
/-- The text of a file. -/
def fT (a : List Fl) (b : ByteArray) : ByteArray × Bool := if a.findIdx (fun y => y.1.toList == b.toList) < a.length then ((a.getD (a.findIdx (fun y => y.1.toList == b.toList)) (ByteArray.empty, ByteArray.empty, 0)).2.1, true) else (ByteArray.mk #[], false)
theorem w_iFileAt (a : List Fl) (b : ByteArray) (hl : a.length ≤ 1048576) : g_iFileAt (a, b) = some (fT a b, ()) := by
  show f_iFileAt BIG _ = _
  rw [e_iFileAt, w_ifileAt a b hl, Option.bind_some]
  unfold fI fT
  by_cases h : a.findIdx (fun y => y.1.toList == b.toList) < a.length
  · simp only [if_pos h]
    rw [decide_eq_false (by omega), cond_false, bnd_nat h, List.getElem?_eq_getElem h, gD (List.getElem?_eq_getElem h)]; rfl
  · simp only [if_neg h]; rfl
theorem w_sFileAt (a : List Fl) (b : ByteArray) (hl : a.length ≤ 1048576) : g_sFileAt (a, b) = some (fT a b, ()) := by
  show f_sFileAt BIG _ = _
  rw [e_sFileAt, w_sl03At a b hl, Option.bind_some]
  unfold fI fT
  by_cases h : a.findIdx (fun y => y.1.toList == b.toList) < a.length
  · simp only [if_pos h]
    rw [decide_eq_false (by omega), cond_false, bnd_nat h, List.getElem?_eq_getElem h, gD (List.getElem?_eq_getElem h)]; rfl
  · simp only [if_neg h]; rfl
theorem frLen_sum (n : Int) (T : List UInt8) : ∀ (k a : Nat), T.length - a ≤ k → a ≤ T.length → a + (rdL n (uf T a).1).2 ≤ T.length
  | k, a, hk, ha => by
    cases hf : fA T a with
    | none => rw [uf_none hf]; simp [rdL]; omega
    | some x =>
      obtain ⟨V, b⟩ := x
      have hin := fA_in hf
      have hfl : frLen V = b - a := by
        unfold frLen
        rw [hin.2.2.1]
        simp only [List.length_take, List.length_drop]; omega
      rw [uf_some hf, rdL]
      cases rcD n V with
      | none => simp; omega
      | some r =>
        cases k with
        | zero => omega
        | succ k =>
          have := frLen_sum n T k b (by omega) hin.2.1
          simp only [hfl]; omega
end Go.Fw
