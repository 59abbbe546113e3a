/- What the given functions come to. No conditions. -/
import Derived.Test.YtojipknoidbbgaaX1
import Derived.IntWalk
set_option linter.unusedVariables false
set_option linter.unusedSimpArgs false
namespace Go.Fw
theorem loop_rel {X B : Type} {F : (X → Option B) → X → Option B} (I : X → Prop) (μ : X → Nat) (Q : X → B → Prop)
    (h : ∀ self x, I x → (∀ y, I y → μ y < μ x → ∃ b, self y = some b ∧ Q y b) → ∃ b, F self x = some b ∧ Q x b) : ∀ {n : Nat} {x : X}, μ x < n → I x → ∃ b, loopT n F x = some b ∧ Q x b
  | 0, _, hn, _ => absurd hn (Nat.not_lt_zero _)
  | n + 1, x, hn, hi => h (it F n) x hi fun _ hy hm => loop_rel I μ Q h (n := n) (by omega) hy
theorem loop_eq {X B : Type} {F : (X → Option B) → X → Option B} (I : X → Prop) (μ : X → Nat) (R : X → B)
    (h : ∀ self x, I x → (∀ y, I y → μ y < μ x → self y = some (R y)) → F self x = some (R x)) {n : Nat} {x : X} (hn : μ x < n) (hi : I x) : loopT n F x = some (R x) := by
  obtain ⟨b, h1, h2⟩ := loop_rel (F := F) I μ (fun x b => b = R x) (fun self x hx hs => ⟨_, h self x hx fun y hy hm => by obtain ⟨b, h1, h2⟩ := hs y hy hm; rw [h1, h2], rfl⟩) hn hi
  rw [h1, h2]
theorem wr {n : Int} (h : -9223372036854775808 ≤ n) (h' : n ≤ 9223372036854775807) : IntKind.wrap .i64 n = n := by
  rw [IntKind.wrap_i64]; omega
theorem wr1 {i : Nat} (h : i < maxLen) : IntKind.wrap .i64 ((i : Int) + 1) = ((i + 1 : Nat) : Int) := by
  have : maxLen = 9223372036854775807 := by decide
  rw [wr (by omega) (by omega)]; rfl
theorem bnd_ok {B : Type} {len : Nat} {i : Int} {k : Nat → Option B} (h : 0 ≤ i) (h' : i < len) : bnd len i k = k i.toNat := by
  unfold bnd
  rw [if_pos ⟨h, by omega⟩]
theorem bnd_nat {B : Type} {len : Nat} {i : Nat} {k : Nat → Option B} (h' : i < len) : bnd len (i : Int) k = k i := by
  rw [bnd_ok (Int.natCast_nonneg i) (by omega)]
  simp
theorem allLoop {α B : Type} (a : List α) (hl : a.length < 18446744073709551616) {F : (Int → Option (Unit ⊕ B)) → Int → Option (Unit ⊕ B)} (p : Nat → Bool) (b : B)
    (hF : ∀ self (i : Nat) y, a[i]? = some y → F self (i : Int) = if p i then self ((i + 1 : Nat) : Int) else some (.inr b))
    (hE : ∀ self, F self (a.length : Int) = some (.inl ())) : loopT BIG F 0 = some (if ∀ i, i < a.length → p i = true then .inl () else .inr b) := by
  have hh := loop_rel (F := F) (fun x => ∃ i : Nat, x = i ∧ i ≤ a.length) (fun x => a.length - x.toNat) (fun x r => ((∀ i : Nat, x ≤ (i : Int) → i < a.length → p i = true) ∧ r = .inl ()) ∨ ((∃ i : Nat, i < a.length ∧ p i = false) ∧ r = .inr b)) (fun self x ⟨i, h1, h2⟩ hs => ?_) (n := BIG) (x := 0) (by simp; exact hl) ⟨0, rfl, by simp⟩
  · obtain ⟨r, hr, hq⟩ := hh
    rw [hr]
    congr 1
    rcases hq with ⟨h1, rfl⟩ | ⟨⟨i, h1, h2⟩, rfl⟩
    · rw [if_pos fun i hi => h1 i (by omega) hi]
    · rw [if_neg]
      intro h
      rw [h i h1] at h2; cases h2
  · subst h1
    by_cases hi : i < a.length
    · rw [hF self i a[i] (List.getElem?_eq_getElem hi)]
      cases hp : p i with
      | true =>
        rw [if_pos rfl]
        obtain ⟨r, hr, hq⟩ := hs _ ⟨i + 1, rfl, hi⟩ (by simp; omega)
        refine ⟨r, hr, ?_⟩
        rcases hq with ⟨h1, rfl⟩ | h1
        · refine .inl ⟨fun k hk hk' => ?_, rfl⟩
          by_cases h : k = i
          · subst h; exact hp
          · exact h1 k (by omega) hk'
        · exact .inr h1
      | false => exact ⟨_, rfl, .inr ⟨⟨i, hi, hp⟩, rfl⟩⟩
    · have : i = a.length := by omega
      subst this
      exact ⟨_, hE self, .inl ⟨fun k hk hk' => by omega, rfl⟩⟩
theorem maxLen_lt : maxLen < 18446744073709551616 := by decide
theorem eqLoop {α B : Type} [DecidableEq α] (a b : List α) (hl : a.length ≤ maxLen) (hab : a.length = b.length) {F : (Int → Option (Unit ⊕ B)) → Int → Option (Unit ⊕ B)} (r : B)
    (hF : ∀ self (i : Nat) x y, a[i]? = some x → b[i]? = some y → F self (i : Int) = if x = y then self ((i + 1 : Nat) : Int) else some (.inr r))
    (hE : ∀ self, F self (a.length : Int) = some (.inl ())) : loopT BIG F 0 = some (if a = b then .inl () else .inr r) := by
  rw [allLoop a (Nat.lt_of_le_of_lt hl maxLen_lt) (fun i => decide (a[i]? = b[i]?)) r (fun self i y hy => ?_) hE]
  · congr 1
    by_cases h : a = b
    · subst h; simp
    · rw [if_neg h, if_neg]
      intro h'
      apply h
      apply List.ext_getElem? fun i => ?_
      by_cases hi : i < a.length
      · simpa using h' i hi
      · rw [List.getElem?_eq_none (by omega), List.getElem?_eq_none (by omega)]
  · have hi := (List.getElem?_eq_some_iff.1 hy).1
    have hb : b[i]? = some (b[i]'(by omega)) := List.getElem?_eq_getElem (by omega)
    rw [hF self i y _ hy hb, hy, hb]
    simp
theorem foldLoop {α S B : Type} (a : List α) (hl : a.length < 18446744073709551616) {F : (S × Int → Option B) → S × Int → Option B} (I : Nat → S → Prop) (st : S → α → S) (R : S → B) {s0 : S} (h0 : I 0 s0)
    (hI : ∀ i s y, a[i]? = some y → I i s → I (i + 1) (st s y)) (hF : ∀ self s (i : Nat) y, a[i]? = some y → I i s → F self (s, (i : Int)) = self (st s y, ((i + 1 : Nat) : Int)))
    (hE : ∀ self s, I a.length s → F self (s, (a.length : Int)) = some (R s)) : loopT BIG F (s0, 0) = some (R (a.foldl st s0)) := by
  have := loop_eq (F := F) (fun x => ∃ i : Nat, x.2 = i ∧ i ≤ a.length ∧ I i x.1) (fun x => a.length - x.2.toNat) (fun x => R ((a.drop x.2.toNat).foldl st x.1)) (fun self x ⟨i, h1, h2, h3⟩ hs => ?_) (n := BIG) (x := (s0, 0)) (by simp; exact hl) ⟨0, rfl, by simp, h0⟩
  · simpa using this
  · obtain ⟨s, j⟩ := x
    simp only at h1 h2 h3
    subst h1
    by_cases hi : i < a.length
    · have hy := List.getElem?_eq_getElem hi
      rw [hF self s i a[i] hy h3, hs _ ⟨i + 1, rfl, hi, hI _ _ _ hy h3⟩ (by simp; omega)]
      simp only [Int.toNat_natCast]
      rw [List.drop_eq_getElem_cons hi, List.foldl_cons]
    · have : i = a.length := by omega
      subst this
      rw [hE self s h3]
      simp
def HdL {α : Type} (hd : Int → α → Int → Prop) : Int → List α → Int → Prop
  | k, [], k' => k' = k
  | k, z :: t, k' => ∃ k1, hd k z k1 ∧ HdL hd k1 t k'
theorem HdL.snoc {α : Type} {hd : Int → α → Int → Prop} : ∀ {t : List α} {k k1 k2 : Int} {z : α}, HdL hd k t k1 → hd k1 z k2 → HdL hd k (t ++ [z]) k2
  | [], _, _, _, _, h, h' => by cases h; exact ⟨_, h', rfl⟩
  | _ :: _, _, _, _, _, ⟨k3, h1, h2⟩, h' => ⟨k3, h1, h2.snoc h'⟩
theorem mkLoop {α : Type} (hd : Int → α → Int → Prop) (C : Int) (hC : 0 ≤ C) (a : List α) (k0 : Int) (hl : a.length < 18446744073709551616)
    {F : (List α × Int × Int → Option (List α × Int)) → List α × Int × Int → Option (List α × Int)}
    (hF : ∀ self out (i : Nat) (k : Int) y, i < a.length → out.length = a.length → out[i]? = some y → a[i]? = some y → k0 ≤ k → k ≤ k0 + C * i →
      ∃ z k', hd k z k' ∧ k ≤ k' ∧ k' ≤ k + C ∧ F self (out, k, (i : Int)) = self (out.set i z, k', ((i + 1 : Nat) : Int)))
    (hE : ∀ self out k, out.length = a.length → F self (out, k, (a.length : Int)) = some (out, k)) :
    ∃ t k', loopT BIG F (a, k0, 0) = some (t, k') ∧ HdL hd k0 t k' ∧ t.length = a.length ∧ k0 ≤ k' ∧ k' ≤ k0 + C * a.length := by
  have := loop_rel (F := F) (fun x => ∃ (i : Nat) (t : List α), x.2.2 = i ∧ i ≤ a.length ∧ t.length = i ∧ x.1 = t ++ a.drop i ∧ HdL hd k0 t x.2.1 ∧ k0 ≤ x.2.1 ∧ x.2.1 ≤ k0 + C * i) (fun x => a.length - x.2.2.toNat)
    (fun _ r => HdL hd k0 r.1 r.2 ∧ r.1.length = a.length ∧ k0 ≤ r.2 ∧ r.2 ≤ k0 + C * a.length) (fun self x ⟨i, t, h1, h2, h3, h4, h5, h6, h7⟩ hs => ?_) (n := BIG) (x := (a, k0, 0)) (by simp; exact hl)
    ⟨0, [], rfl, by simp, rfl, by simp, rfl, Int.le_refl _, by simp⟩
  · obtain ⟨⟨t, k'⟩, h1, h2⟩ := this
    exact ⟨t, k', h1, h2⟩
  · obtain ⟨out, k, j⟩ := x
    simp only at h1 h4 h5 h6 h7
    subst h1 h3
    have hlen : out.length = a.length := by rw [h4]; simp; omega
    by_cases hi : t.length < a.length
    · have hy := List.getElem?_eq_getElem hi
      have ho : out[t.length]? = a[t.length]? := by rw [h4, List.getElem?_append_right (Nat.le_refl _)]; simp
      obtain ⟨z, k', g1, g2, g3, g4⟩ := hF self out t.length k _ hi hlen (by rw [ho, hy]) hy h6 h7
      rw [g4]
      have e : out.set t.length z = (t ++ [z]) ++ a.drop (t.length + 1) := by
        rw [h4, List.set_append_right _ _ (Nat.le_refl _), Nat.sub_self, List.drop_eq_getElem_cons hi, List.set_cons_zero, List.append_assoc]
        rfl
      have hm : C * ((t.length + 1 : Nat) : Int) = C * (t.length : Int) + C := by rw [Int.natCast_add, Int.mul_add]; simp
      exact hs _ ⟨t.length + 1, t ++ [z], rfl, hi, by simp, e, h5.snoc g1, by simp only; omega, by simp only; omega⟩ (by simp only [Int.toNat_natCast]; omega)
    · have hi' : t.length = a.length := by omega
      rw [hi', hE self out k hlen]
      rw [hi', List.drop_length, List.append_nil] at h4
      subst h4
      exact ⟨_, rfl, h5, hi', h6, by rw [← hi']; exact h7⟩
theorem hdLoop {α B : Type} (hd : Int → α → Int → Prop) (a : List α) (k0 k9 : Int) (hl : a.length < 18446744073709551616) (h : HdL hd k0 a k9)
    {F : (Int × Int → Option (Int ⊕ B)) → Int × Int → Option (Int ⊕ B)}
    (hF : ∀ self (i : Nat) (k k' : Int) z, a[i]? = some z → hd k z k' → F self (k, (i : Int)) = self (k', ((i + 1 : Nat) : Int)))
    (hE : ∀ self k, F self (k, (a.length : Int)) = some (.inl k)) : loopT BIG F (k0, 0) = some (.inl k9) := by
  have := loop_eq (F := F) (fun x => ∃ i : Nat, x.2 = i ∧ i ≤ a.length ∧ HdL hd x.1 (a.drop i) k9) (fun x => a.length - x.2.toNat) (fun _ => .inl k9) (fun self x ⟨i, h1, h2, h3⟩ hs => ?_) (n := BIG) (x := (k0, 0)) (by simp; exact hl) ⟨0, rfl, by simp, by simpa using h⟩
  · exact this
  · obtain ⟨k, j⟩ := x
    simp only at h1 h3
    subst h1
    by_cases hi : i < a.length
    · rw [List.drop_eq_getElem_cons hi] at h3
      obtain ⟨k1, g1, g2⟩ := h3
      rw [hF self i k k1 _ (List.getElem?_eq_getElem hi) g1]
      exact hs _ ⟨i + 1, rfl, hi, g2⟩ (by simp; omega)
    · have : i = a.length := by omega
      subst this
      rw [List.drop_length] at h3
      cases h3
      exact hE self _
inductive Con (E : List (Int × Int)) : Int → Int → Prop
  | refl (v : Int) : Con E v v
  | fwd {u v w : Int} : Con E u v → (v, w) ∈ E → Con E u w
  | bwd {u v w : Int} : Con E u v → (w, v) ∈ E → Con E u w
theorem Con.trans {E : List (Int × Int)} {u v w : Int} (h : Con E u v) (h' : Con E v w) : Con E u w := by
  induction h' with
  | refl => exact h
  | fwd _ he ih => exact .fwd ih he
  | bwd _ he ih => exact .bwd ih he
theorem Con.symm {E : List (Int × Int)} {u v : Int} (h : Con E u v) : Con E v u := by
  induction h with
  | refl => exact .refl _
  | fwd _ he ih => exact Con.trans (.bwd (.refl _) he) ih
  | bwd _ he ih => exact Con.trans (.fwd (.refl _) he) ih
theorem Con.mono {E E' : List (Int × Int)} (hE : ∀ e, e ∈ E → e ∈ E') {u v : Int} (h : Con E u v) : Con E' u v := by
  induction h with
  | refl => exact .refl _
  | fwd _ he ih => exact .fwd ih (hE _ he)
  | bwd _ he ih => exact .bwd ih (hE _ he)
theorem Con.of {E : List (Int × Int)} {u v : Int} (h : (u, v) ∈ E) : Con E u v := .fwd (.refl _) h
theorem Con.nil {u v : Int} (h : Con [] u v) : u = v := by
  induction h with
  | refl => rfl
  | fwd _ he _ => cases he
  | bwd _ he _ => cases he
theorem Con.snoc {E : List (Int × Int)} {a b u v : Int} : Con (E ++ [(a, b)]) u v ↔ Con E u v ∨ (Con E u a ∧ Con E b v) ∨ (Con E u b ∧ Con E a v) := by
  constructor
  · intro h
    induction h with
    | refl => exact .inl (.refl _)
    | fwd _ he ih =>
      rcases List.mem_append.1 he with h1 | h1
      · rcases ih with h | ⟨h, h'⟩ | ⟨h, h'⟩
        · exact .inl (.fwd h h1)
        · exact .inr (.inl ⟨h, .fwd h' h1⟩)
        · exact .inr (.inr ⟨h, .fwd h' h1⟩)
      · cases List.mem_singleton.1 h1
        rcases ih with h | ⟨h, h'⟩ | ⟨h, h'⟩
        · exact .inr (.inl ⟨h, .refl _⟩)
        · exact .inr (.inl ⟨h, .refl _⟩)
        · exact .inl h
    | bwd _ he ih =>
      rcases List.mem_append.1 he with h1 | h1
      · rcases ih with h | ⟨h, h'⟩ | ⟨h, h'⟩
        · exact .inl (.bwd h h1)
        · exact .inr (.inl ⟨h, .bwd h' h1⟩)
        · exact .inr (.inr ⟨h, .bwd h' h1⟩)
      · cases List.mem_singleton.1 h1
        rcases ih with h | ⟨h, h'⟩ | ⟨h, h'⟩
        · exact .inr (.inr ⟨h, .refl _⟩)
        · exact .inl h
        · exact .inr (.inr ⟨h, .refl _⟩)
  · have hm : ∀ {x y : Int}, Con E x y → Con (E ++ [(a, b)]) x y := fun h => h.mono fun e he => List.mem_append_left _ he
    have hab : Con (E ++ [(a, b)]) a b := .of (List.mem_append_right _ (List.mem_singleton.2 rfl))
    rintro (h | ⟨h, h'⟩ | ⟨h, h'⟩)
    · exact hm h
    · exact (hm h).trans (hab.trans (hm h'))
    · exact (hm h).trans (hab.symm.trans (hm h'))
def EIn (n : Nat) (E : List (Int × Int)) : Prop := ∀ e, e ∈ E → 0 ≤ e.1 ∧ e.1 < n ∧ 0 ≤ e.2 ∧ e.2 < n
theorem Con.range {n : Nat} {E : List (Int × Int)} (hE : EIn n E) {u v : Int} (h : Con E u v) (hu : 0 ≤ u ∧ u < n) : 0 ≤ v ∧ v < n := by
  induction h with
  | refl => exact hu
  | fwd _ he _ => exact ⟨(hE _ he).2.2.1, (hE _ he).2.2.2⟩
  | bwd _ he _ => exact ⟨(hE _ he).1, (hE _ he).2.1⟩
def Lab (n : Nat) (E : List (Int × Int)) (l : List Int) : Prop :=
  l.length = n ∧ ∀ (v : Nat) (x : Int), l[v]? = some x → Con E v x ∧ 0 ≤ x ∧ ∀ u : Int, 0 ≤ u → Con E v u → x ≤ u
theorem Lab.le {n : Nat} {E : List (Int × Int)} {l : List Int} (h : Lab n E l) {v : Nat} {x : Int} (hx : l[v]? = some x) : x ≤ v :=
  (h.2 v x hx).2.2 v (Int.natCast_nonneg v) (.refl _)
theorem Lab.lt {n : Nat} {E : List (Int × Int)} {l : List Int} (h : Lab n E l) {v : Nat} {x : Int} (hx : l[v]? = some x) : 0 ≤ x ∧ x < n := by
  have h1 := h.le hx
  have h2 := (List.getElem?_eq_some_iff.1 hx).1
  have h3 := (h.2 v x hx).2.1
  have h4 := h.1
  omega
theorem Lab.iff {n : Nat} {E : List (Int × Int)} {l : List Int} (h : Lab n E l) {u v : Nat} {x y : Int} (hx : l[u]? = some x) (hy : l[v]? = some y) : x = y ↔ Con E u v := by
  have h1 := h.2 u x hx
  have h2 := h.2 v y hy
  constructor
  · intro e
    subst e
    exact h1.1.trans h2.1.symm
  · intro c
    have a := h1.2.2 y h2.2.1 (c.trans h2.1)
    have b := h2.2.2 x h1.2.1 (c.symm.trans h1.1)
    omega
theorem Lab.self {n : Nat} {E : List (Int × Int)} {l : List Int} (h : Lab n E l) {v : Nat} {x : Int} (hx : l[v]? = some x) : l[x.toNat]? = some x := by
  have h1 := h.lt hx
  have hi : x.toNat < l.length := by rw [h.1]; omega
  rw [List.getElem?_eq_getElem hi]
  have h2 := h.2 v x hx
  have hc : Con E (x.toNat : Int) v := by rw [Int.toNat_of_nonneg h1.1]; exact h2.1.symm
  rw [(h.iff (List.getElem?_eq_getElem hi) hx).2 hc]
def lab0 (n : Nat) : List Int := (List.range n).map fun (i : Nat) => (i : Int)
theorem lab0_get {n v : Nat} {x : Int} (h : (lab0 n)[v]? = some x) : v < n ∧ x = v := by
  have hi := (List.getElem?_eq_some_iff.1 h).1
  simp only [lab0, List.length_map, List.length_range] at hi
  simp only [lab0, List.getElem?_map, List.getElem?_range hi, Option.map_some, Option.some.injEq] at h
  exact ⟨hi, h.symm⟩
theorem lab0_len (n : Nat) : (lab0 n).length = n := by simp [lab0]
theorem Lab.zero (n : Nat) : Lab n [] (lab0 n) := by
  refine ⟨lab0_len n, fun v x h => ?_⟩
  obtain ⟨_, rfl⟩ := lab0_get h
  exact ⟨.refl _, Int.natCast_nonneg v, fun u _ h => by rw [h.nil]; exact Int.le_refl _⟩
section
variable {n : Nat} {E : List (Int × Int)} {L : List Int}
def Dn (n : Nat) (E : List (Int × Int)) (l : List Int) : Prop := l.length = n ∧ ∀ (v : Nat) (x : Int), l[v]? = some x → Con E v x ∧ 0 ≤ x
theorem Dn.set {l : List Int} (h : Dn n E l) {v : Nat} {x : Int} (hc : Con E v x) (h0 : 0 ≤ x) : Dn n E (l.set v x) := by
  refine ⟨by simp [h.1], fun u y hu => ?_⟩
  rw [List.getElem?_set] at hu
  split at hu
  · subst v
    split at hu
    · cases hu; exact ⟨hc, h0⟩
    · cases hu
  · exact h.2 u y hu
end
theorem h_sl01In (a b c : Int) : g_sl01In (a, b, c) = some (decide (b ≤ a) && decide (a ≤ c), ()) := by
  show f_sl01In BIG _ = _
  rw [e_sl01In]
  cases decide (b ≤ a) <;> rfl
theorem h_iin (a b c : Int) : g_iin (a, b, c) = some (decide (b ≤ a) && decide (a ≤ c), ()) := by
  show f_iin BIG _ = _
  rw [e_iin]
  cases decide (b ≤ a) <;> rfl
abbrev Ed := Int × Int
def inB (a b c : Int) : Bool := decide (b ≤ a) && decide (a ≤ c)
theorem h_sl01In' (a b c : Int) : g_sl01In (a, b, c) = some (inB a b c, ()) := h_sl01In a b c
theorem h_iin' (a b c : Int) : g_iin (a, b, c) = some (inB a b c, ()) := h_iin a b c
theorem inB_t {a b c : Int} : inB a b c = true ↔ b ≤ a ∧ a ≤ c := by simp [inB]
def edB (n : Int) (e : Ed) : Bool := inB n 1 12 && (inB e.1 0 (n - 1) && (inB e.2 0 (n - 1) && decide (e.1 < e.2)))
theorem h_iEdgeOk (n : Int) (e : Ed) : g_iEdgeOk (n, e) = some (edB n e, ()) := by
  show f_iEdgeOk BIG _ = _
  rw [e_iEdgeOk, h_iin', Option.bind_some]
  unfold edB
  cases h : inB n 1 12 with
  | false => rfl
  | true =>
    have := inB_t.1 h
    rw [wr (by omega) (by omega)]
    simp only [h_iin', Option.bind_some, cond_true, Bool.true_and]
    cases inB e.1 0 (n - 1) <;> cases inB e.2 0 (n - 1) <;> rfl
theorem h_sEdgeOk (n : Int) (e : Ed) : g_sEdgeOk (n, e) = some (edB n e, ()) := by
  show f_sEdgeOk BIG _ = _
  rw [e_sEdgeOk, h_sl01In', Option.bind_some]
  unfold edB
  cases h : inB n 1 12 with
  | false => rfl
  | true =>
    have := inB_t.1 h
    rw [wr (by omega) (by omega)]
    simp only [h_sl01In', Option.bind_some, cond_true, Bool.true_and]
    cases inB e.1 0 (n - 1) <;> cases inB e.2 0 (n - 1) <;> rfl
def lsB (x y : Ed) : Bool := decide (x.1 < y.1) || (decide (x.1 = y.1) && decide (x.2 < y.2))
theorem h_iahead (x y : Ed) : g_iahead (x, y) = some (lsB x y, ()) := by
  show f_iahead BIG _ = _
  rw [e_iahead]
  unfold lsB
  cases decide (x.1 < y.1) <;> cases decide (x.1 = y.1) <;> rfl
theorem h_sl05Less (x y : Ed) : g_sl05Less (x, y) = some (lsB x y, ()) := by
  show f_sl05Less BIG _ = _
  rw [e_sl05Less]
  unfold lsB
  cases decide (x.1 < y.1) <;> cases decide (x.1 = y.1) <;> rfl
def eP (n : Int) (es : List Ed) (i : Nat) : Bool := match es[i]? with
  | some y => edB n y && (match i with
    | 0 => true
    | j + 1 => match es[j]? with
      | some x => lsB x y
      | none => false)
  | none => false
theorem eP_0 {n : Int} {es : List Ed} {y : Ed} (h : es[0]? = some y) : eP n es 0 = edB n y := by
  unfold eP; rw [h]; simp
theorem eP_s {n : Int} {es : List Ed} {x y : Ed} {j : Nat} (h : es[j + 1]? = some y) (h' : es[j]? = some x) : eP n es (j + 1) = (edB n y && lsB x y) := by
  unfold eP; rw [h]; simp only [h']
def eOk (n : Int) (es : List Ed) : Bool := if ∀ i, i < es.length → eP n es i = true then decide ((es.length : Int) ≤ 66) else false
theorem eOk_len {n : Int} {es : List Ed} (h : eOk n es = true) : es.length ≤ 66 := by
  unfold eOk at h
  split at h
  · rw [decide_eq_true_eq] at h; omega
  · cases h
theorem h_iedgesOk (n : Int) (es : List Ed) (hl : es.length ≤ 1048576) : g_iedgesOk (n, es) = some (eOk n es, ()) := by
  have hm : maxLen = 9223372036854775807 := by decide
  show f_iedgesOk BIG _ = _
  rw [e_iedgesOk, allLoop es (by omega) (eP n es) false]
  · unfold eOk
    split <;> rfl
  · intro self i y hy
    have hi := (List.getElem?_eq_some_iff.1 hy).1
    simp only [show ((i : Int) < (es.length : Int)) from by omega, decide_true, cond_true]
    rw [bnd_nat hi, hy, Option.bind_some, h_iEdgeOk, wr1 (by omega)]
    cases i with
    | zero =>
      rw [eP_0 hy]
      cases edB n y <;> simp
    | succ j =>
      have hj : es[j]? = some (es[j]'(by omega)) := List.getElem?_eq_getElem (by omega)
      rw [eP_s hy hj, show (((j + 1 : Nat) : Int) - 1) = (j : Int) from by omega, wr (n := (j : Int)) (by omega) (by omega)]
      cases hb : edB n y with
      | false => simp
      | true =>
        simp only [Option.bind_some, Bool.not_true, cond_false, show (0 : Int) < ((j + 1 : Nat) : Int) from by omega, decide_true, cond_true, Bool.true_and]
        rw [bnd_nat (by omega), hj]
        simp only [Option.bind_some]
        simp only [Option.bind_some, h_iahead]
        cases lsB _ y <;> rfl
  · intro self
    simp
theorem h_sl05Edges (n : Int) (es : List Ed) (hl : es.length ≤ 1048576) : g_sl05Edges (n, es) = some (eOk n es, ()) := by
  have hm : maxLen = 9223372036854775807 := by decide
  show f_sl05Edges BIG _ = _
  rw [e_sl05Edges, allLoop es (by omega) (eP n es) false]
  · unfold eOk
    split <;> rfl
  · intro self i y hy
    have hi := (List.getElem?_eq_some_iff.1 hy).1
    simp only [show ((i : Int) < (es.length : Int)) from by omega, decide_true, cond_true]
    rw [bnd_nat hi, hy, Option.bind_some, h_sEdgeOk, wr1 (by omega)]
    cases i with
    | zero =>
      rw [eP_0 hy]
      cases edB n y <;> simp
    | succ j =>
      have hj : es[j]? = some (es[j]'(by omega)) := List.getElem?_eq_getElem (by omega)
      rw [eP_s hy hj, show (((j + 1 : Nat) : Int) - 1) = (j : Int) from by omega, wr (n := (j : Int)) (by omega) (by omega)]
      cases hb : edB n y with
      | false => simp
      | true =>
        simp only [Option.bind_some, Bool.not_true, cond_false, show (0 : Int) < ((j + 1 : Nat) : Int) from by omega, decide_true, cond_true, Bool.true_and]
        rw [bnd_nat (by omega), hj]
        simp only [Option.bind_some]
        rw [bnd_nat hi, hy]
        simp only [Option.bind_some, h_sl05Less]
        cases lsB _ y <;> rfl
  · intro self
    simp
abbrev Or' := Int × Int × List (Int × Int) × Int
def ordB (n : Int) (o : Or') : Bool := inB n 1 12 && (inB o.1 1 100000 && (inB o.2.1 1 4 && (eOk n o.2.2.1 && (if o.2.1 = 3 then decide (o.2.2.1.length = 0) && inB o.2.2.2 0 (n - 1) else if o.2.1 = 4 then decide (0 < o.2.2.1.length) && decide (o.2.2.2 = 0) else decide (o.2.2.1.length = 1) && decide (o.2.2.2 = 0)))))
theorem h_sOrderOk (n : Int) (o : Or') (hl : o.2.2.1.length ≤ 1048576) : g_sOrderOk (n, o) = some (ordB n o, ()) := by
  show f_sOrderOk BIG _ = _
  rw [e_sOrderOk]
  simp only [h_sl01In', h_sl05Edges n _ hl, Option.bind_some]
  unfold ordB
  cases h : inB n 1 12 with
  | false => rfl
  | true =>
    have := inB_t.1 h
    rw [wr (by omega) (by omega)]
    cases h1 : inB o.1 1 100000 with
    | false => rfl
    | true =>
      cases h2 : inB o.2.1 1 4 with
      | false => rfl
      | true =>
        cases h3 : eOk n o.2.2.1 with
        | false => rfl
        | true =>
          simp only [Bool.not_true, cond_false, Option.bind_some, Bool.true_and]
          by_cases k3 : o.2.1 = 3
          · rw [if_pos k3, decide_eq_true k3, cond_true]
            by_cases hz : o.2.2.1.length = 0
            · rw [decide_eq_true hz, decide_eq_true (by omega)]; rfl
            · rw [decide_eq_false hz, decide_eq_false (by omega)]; rfl
          · rw [if_neg k3, decide_eq_false k3, cond_false]
            by_cases k4 : o.2.1 = 4
            · rw [if_pos k4, decide_eq_true k4, cond_true]
              by_cases hz : 0 < o.2.2.1.length
              · rw [decide_eq_true hz, decide_eq_true (by omega)]; rfl
              · rw [decide_eq_false hz, decide_eq_false (by omega)]; rfl
            · rw [if_neg k4, decide_eq_false k4, cond_false]
              by_cases hz : o.2.2.1.length = 1
              · rw [decide_eq_true hz, decide_eq_true (by omega)]; rfl
              · rw [decide_eq_false hz, decide_eq_false (by omega)]; rfl
theorem h_iOrderOk (n : Int) (o : Or') (hl : o.2.2.1.length ≤ 1048576) : g_iOrderOk (n, o) = some (ordB n o, ()) := by
  show f_iOrderOk BIG _ = _
  rw [e_iOrderOk]
  simp only [h_iin', h_iedgesOk n _ hl, Option.bind_some]
  unfold ordB
  cases h : inB n 1 12 with
  | false => rfl
  | true =>
    have := inB_t.1 h
    rw [wr (by omega) (by omega)]
    cases h1 : inB o.1 1 100000 with
    | false => rfl
    | true =>
      cases h3 : eOk n o.2.2.1 with
      | false => simp
      | true =>
        simp only [Bool.not_true, cond_false, Option.bind_some, Bool.true_and]
        by_cases k3 : o.2.1 = 3
        · have h2 : inB o.2.1 1 4 = true := inB_t.2 (by omega)
          rw [h2, if_pos k3, decide_eq_true k3]
          rw [decide_eq_false (by omega : ¬ o.2.1 = 1), decide_eq_false (by omega : ¬ o.2.1 = 2)]
          by_cases hz : o.2.2.1.length = 0
          · rw [decide_eq_true hz, decide_eq_true (show (o.2.2.1.length : Int) = 0 from by omega)]; by_cases hv : o.2.2.2 = 0 <;> simp [hv]
          · rw [decide_eq_false hz, decide_eq_false (show ¬ (o.2.2.1.length : Int) = 0 from by omega)]; by_cases hv : o.2.2.2 = 0 <;> simp [hv]
        · rw [if_neg k3, decide_eq_false k3]
          by_cases hv : o.2.2.2 = 0
          · simp only [hv, decide_true, Bool.not_true, cond_false, Option.bind_some, Bool.and_true]
            by_cases k4 : o.2.1 = 4
            · have h2 : inB o.2.1 1 4 = true := inB_t.2 (by omega)
              rw [h2, if_pos k4, decide_eq_true k4, decide_eq_false (by omega : ¬ o.2.1 = 1), decide_eq_false (by omega : ¬ o.2.1 = 2)]
              simp
            · rw [if_neg k4, decide_eq_false k4]
              by_cases k1 : o.2.1 = 1
              · have h2 : inB o.2.1 1 4 = true := inB_t.2 (by omega)
                rw [h2, decide_eq_true k1]
                simp
                omega
              · by_cases k2 : o.2.1 = 2
                · have h2 : inB o.2.1 1 4 = true := inB_t.2 (by omega)
                  rw [h2, decide_eq_false k1, decide_eq_true k2]
                  simp
                  omega
                · have h2 : inB o.2.1 1 4 = false := by
                    cases hh : inB o.2.1 1 4 with
                    | false => rfl
                    | true => have := inB_t.1 hh; omega
                  rw [h2, decide_eq_false k1, decide_eq_false k2]
                  rfl
          · simp [hv]
def lbP (l : List Int) (i : Nat) : Bool := match l[i]? with
  | some y => inB y 0 i && (match l[y.toNat]? with
    | some z => decide (z = y)
    | none => false)
  | none => false
theorem lbP_eq {l : List Int} {i : Nat} {y z : Int} (h : l[i]? = some y) (h' : l[y.toNat]? = some z) : lbP l i = (inB y 0 i && decide (z = y)) := by
  unfold lbP; rw [h]; simp only [h']
theorem lbP_f {l : List Int} {i : Nat} {y : Int} (h : l[i]? = some y) (h' : inB y 0 i = false) : lbP l i = false := by
  unfold lbP; rw [h]; simp only [h', Bool.false_and]
def lbOk (n : Int) (l : List Int) : Bool := if (l.length : Int) = n then (if ∀ i, i < l.length → lbP l i = true then true else false) else false
theorem h_ilabelsOk (n : Int) (l : List Int) (hl : l.length ≤ 1048576) : g_ilabelsOk (n, l) = some (lbOk n l, ()) := by
  have hm : maxLen = 9223372036854775807 := by decide
  show f_ilabelsOk BIG _ = _
  rw [e_ilabelsOk]
  unfold lbOk
  by_cases hn : (l.length : Int) = n
  · rw [if_pos hn, decide_eq_true hn, Bool.not_true, cond_false, allLoop l (by omega) (lbP l) false]
    · split <;> rfl
    · intro self i y hy
      have hi := (List.getElem?_eq_some_iff.1 hy).1
      simp only [show ((i : Int) < (l.length : Int)) from by omega, decide_true, cond_true]
      rw [bnd_nat hi, hy, Option.bind_some, h_iin', wr1 (by omega)]
      cases hb : inB y 0 (i : Int) with
      | false => rw [lbP_f hy hb]; simp
      | true =>
        have := inB_t.1 hb
        have hz : l[y.toNat]? = some (l[y.toNat]'(by omega)) := List.getElem?_eq_getElem (by omega)
        rw [lbP_eq hy hz, hb]
        simp only [Option.bind_some, Bool.not_true, cond_false, Bool.true_and]
        rw [bnd_ok (by omega) (by omega), hz]
        simp only [Option.bind_some]
        by_cases hd : l[y.toNat]'(by omega) = y <;> simp [hd]
    · intro self
      simp
  · rw [if_neg hn, decide_eq_false hn]; rfl
theorem h_sl09Labels (n : Int) (l : List Int) (hl : l.length ≤ 1048576) : g_sl09Labels (n, l) = some (lbOk n l, ()) := by
  have hm : maxLen = 9223372036854775807 := by decide
  show f_sl09Labels BIG _ = _
  rw [e_sl09Labels]
  unfold lbOk
  by_cases hn : (l.length : Int) = n
  · rw [if_pos hn, decide_eq_true hn, Bool.not_true, cond_false]
    subst hn
    rw [allLoop l (by omega) (lbP l) false]
    · split <;> rfl
    · intro self i y hy
      have hi := (List.getElem?_eq_some_iff.1 hy).1
      simp only [show ((i : Int) < (l.length : Int)) from by omega, decide_true, cond_true]
      simp only [bnd_nat hi, hy, Option.bind_some, h_sl01In', wr1 (show i < maxLen from by omega)]
      cases hb : inB y 0 (i : Int) with
      | false => rw [lbP_f hy hb]; simp
      | true =>
        have := inB_t.1 hb
        have hz : l[y.toNat]? = some (l[y.toNat]'(by omega)) := List.getElem?_eq_getElem (by omega)
        rw [lbP_eq hy hz, hb]
        simp only [Option.bind_some, Bool.not_true, cond_false, Bool.true_and]
        rw [bnd_ok (by omega) (by omega), hz]
        simp only [Option.bind_some]
        by_cases hd : l[y.toNat]'(by omega) = y <;> simp [hd]
    · intro self
      simp
  · rw [if_neg hn, decide_eq_false hn]; rfl
abbrev An := Int × Bool × List (Int × Int) × List Int
def ansB (n : Int) (o : An) : Bool := inB n 1 12 && (inB o.1 1 100000 && (eOk n o.2.2.1 && lbOk n o.2.2.2))
theorem h_iAnswerOk (n : Int) (o : An) (hl : o.2.2.1.length ≤ 1048576) (hl' : o.2.2.2.length ≤ 1048576) : g_iAnswerOk (n, o) = some (ansB n o, ()) := by
  show f_iAnswerOk BIG _ = _
  rw [e_iAnswerOk]
  simp only [h_iin', h_iedgesOk n _ hl, h_ilabelsOk n _ hl', Option.bind_some]
  unfold ansB
  cases inB n 1 12 <;> cases inB o.1 1 100000 <;> cases eOk n o.2.2.1 <;> rfl
theorem h_sAnswerOk (n : Int) (o : An) (hl : o.2.2.1.length ≤ 1048576) (hl' : o.2.2.2.length ≤ 1048576) : g_sAnswerOk (n, o) = some (ansB n o, ()) := by
  show f_sAnswerOk BIG _ = _
  rw [e_sAnswerOk]
  simp only [h_sl01In', h_sl05Edges n _ hl, h_sl09Labels n _ hl', Option.bind_some]
  unfold ansB
  cases inB n 1 12 <;> cases inB o.1 1 100000 <;> cases eOk n o.2.2.1 <;> rfl
def fM {S α : Type} (st : S → α → Option S) : S → List α → Option S
  | s, [] => some s
  | s, y :: l => (st s y).bind fun s' => fM st s' l
theorem eq_Ask (x0 : Int) (x1 : Int) (x2 : Int) (x3 : Int) (y0 : Int) (y1 : Int) (y2 : Int) (y3 : Int) : g_leqAsk ((x0, x1, x2, x3), (y0, y1, y2, y3)) = some (decide ((x0, x1, x2, x3) = (y0, y1, y2, y3)), ()) := by
  show f_leqAsk BIG _ = _
  rw [e_leqAsk]
  dsimp only
  by_cases c0 : x0 = y0
  case neg =>
    simp [c0]
  rw [decide_eq_true c0, Bool.not_true, cond_false]
  by_cases c1 : x1 = y1
  case neg =>
    simp [c1]
  rw [decide_eq_true c1, Bool.not_true, cond_false]
  by_cases c2 : x2 = y2
  case neg =>
    simp [c2]
  rw [decide_eq_true c2, Bool.not_true, cond_false]
  by_cases c3 : x3 = y3
  case neg =>
    simp [c3]
  rw [decide_eq_true c3, Bool.not_true, cond_false]
  rw [decide_eq_true (by simp_all)]
theorem eq_Edge (x0 : Int) (x1 : Int) (y0 : Int) (y1 : Int) : g_leqEdge ((x0, x1), (y0, y1)) = some (decide ((x0, x1) = (y0, y1)), ()) := by
  show f_leqEdge BIG _ = _
  rw [e_leqEdge]
  dsimp only
  by_cases c0 : x0 = y0
  case neg =>
    simp [c0]
  rw [decide_eq_true c0, Bool.not_true, cond_false]
  by_cases c1 : x1 = y1
  case neg =>
    simp [c1]
  rw [decide_eq_true c1, Bool.not_true, cond_false]
  rw [decide_eq_true (by simp_all)]
theorem eq_IntS (a b : List (Int)) (h : a.length ≤ 4294967296) : g_leqIntS (a, b) = some (decide (a = b), ()) := by
  have hm : maxLen = 9223372036854775807 := by decide
  show f_leqIntS BIG _ = _
  rw [e_leqIntS]
  by_cases hl : a.length = b.length
  · rw [decide_eq_true (by omega), Bool.not_true, cond_false, eqLoop a b (by omega) hl false]
    · by_cases h : a = b <;> simp [h]
    · intro self i x y hx hy
      have hi := (List.getElem?_eq_some_iff.1 hx).1
      simp only [show ((i : Int) < (a.length : Int)) from by omega, decide_true, cond_true]
      rw [bnd_nat hi, hx, Option.bind_some, bnd_nat (by omega), hy, Option.bind_some]
      rw [wr1 (by omega)]
      by_cases h : x = y <;> simp [h]
    · intro self
      simp
  · rw [decide_eq_false (by omega), Bool.not_false, cond_true, decide_eq_false (fun h => hl (by rw [h]))]
def hd_IntS (k : Int) (z : Int) (k' : Int) : Prop := z = k ∧ k' = k + 1 ∧ 0 ≤ k ∧ k ≤ 4611686018427387904
theorem mh_IntS (a : List (Int)) (k : Int) (h0 : 0 ≤ k) (hk : k + 16777216 ≤ 4611686018427387904) (hz : a.length ≤ 16777216) : ∃ t c, g_lmarkIntS (a, k) = some (c, t) ∧ g_lheldIntS (t, k) = some (c, ()) ∧ k ≤ c ∧ c ≤ k + 16777216 := by
  have hm : maxLen = 9223372036854775807 := by decide
  have L := mkLoop hd_IntS 1 (by omega) a k (by omega) (F := fun self1 x0 =>
    bif decide (x0.2.2 < (x0.1.length : Int)) then
     bnd x0.1.length x0.2.2 fun n2 =>
     Option.bind x0.1[n2]? fun y3 =>
     self1 (x0.1.set n2 x0.2.1, IntKind.wrap .i64 (x0.2.1 + (1 : Int)), IntKind.wrap .i64 (x0.2.2 + (1 : Int)))
    else some (x0.1, x0.2.1)) (by
    intro self out i k y hi hl hy _ hk0 hk1
    have hi' : i < out.length := by omega
    have w1 : IntKind.wrap .i64 (k + 1) = k + 1 := wr (by omega) (by omega)
    refine ⟨k, k + 1, ⟨rfl, rfl, by omega, by omega⟩, by omega, by omega, ?_⟩
    simp only [hl, show ((i : Int) < (a.length : Int)) from by omega, decide_true, cond_true, List.length_set, bnd_nat hi, hy, List.getElem?_set_self hi', Option.bind_some, List.set_set, w1, and_true]
    rw [wr1 (by omega)]) (by
    intro self out k hl
    simp [hl])
  obtain ⟨t, c, e1, e2, e3, e4, e5⟩ := L
  refine ⟨t, c, ?_, ?_, e4, by omega⟩
  · show f_lmarkIntS BIG _ = _
    rw [e_lmarkIntS, e1]
    rfl
  · show f_lheldIntS BIG _ = _
    rw [e_lheldIntS, hdLoop hd_IntS t k c (by omega) e2]
    · rfl
    · intro self i kk kk' z hz ⟨g1, g2, g3, g4⟩
      subst g2
      rw [g1] at hz
      have hi := (List.getElem?_eq_some_iff.1 hz).1
      have w1 : IntKind.wrap .i64 (kk + 1) = kk + 1 := wr (by omega) (by omega)
      simp only [show ((i : Int) < (t.length : Int)) from by omega, decide_true, cond_true, bnd_nat hi, hz, Option.bind_some, w1, Bool.not_true, cond_false, beq_self_eq_true]
      rw [wr1 (by omega)]
    · intro self k
      simp
theorem eq_EdgeS (a b : List (Int × Int)) (h : a.length ≤ 4294967296) : g_leqEdgeS (a, b) = some (decide (a = b), ()) := by
  have hm : maxLen = 9223372036854775807 := by decide
  show f_leqEdgeS BIG _ = _
  rw [e_leqEdgeS]
  by_cases hl : a.length = b.length
  · rw [decide_eq_true (by omega), Bool.not_true, cond_false, eqLoop a b (by omega) hl false]
    · by_cases h : a = b <;> simp [h]
    · intro self i x y hx hy
      have hi := (List.getElem?_eq_some_iff.1 hx).1
      simp only [show ((i : Int) < (a.length : Int)) from by omega, decide_true, cond_true]
      rw [bnd_nat hi, hx, Option.bind_some, bnd_nat (by omega), hy, Option.bind_some]
      rw [wr1 (by omega)]
      rw [eq_Edge _ _ _ _, Option.bind_some]
      by_cases h : x = y <;> simp [h]
    · intro self
      simp
  · rw [decide_eq_false (by omega), Bool.not_false, cond_true, decide_eq_false (fun h => hl (by rw [h]))]
def hd_EdgeS (k : Int) (z : Int × Int) (k' : Int) : Prop := z = (k, k + 1) ∧ k' = k + 1 + 1 ∧ 0 ≤ k ∧ k ≤ 4611686018427387904
theorem mh_EdgeS (a : List (Int × Int)) (k : Int) (h0 : 0 ≤ k) (hk : k + 33554432 ≤ 4611686018427387904) (hz : a.length ≤ 16777216) : ∃ t c, g_lmarkEdgeS (a, k) = some (c, t) ∧ g_lheldEdgeS (t, k) = some (c, ()) ∧ k ≤ c ∧ c ≤ k + 33554432 := by
  have hm : maxLen = 9223372036854775807 := by decide
  have L := mkLoop hd_EdgeS 2 (by omega) a k (by omega) (F := fun self1 x0 =>
    bif decide (x0.2.2 < (x0.1.length : Int)) then
     bnd x0.1.length x0.2.2 fun n2 =>
     Option.bind x0.1[n2]? fun y3 =>
     bnd (x0.1.set n2 (x0.2.1, y3.2)).length x0.2.2 fun n4 =>
     Option.bind (x0.1.set n2 (x0.2.1, y3.2))[n4]? fun y5 =>
     self1 ((x0.1.set n2 (x0.2.1, y3.2)).set n4 (y5.1, IntKind.wrap .i64 (x0.2.1 + (1 : Int))), IntKind.wrap .i64 ((IntKind.wrap .i64 (x0.2.1 + (1 : Int))) + (1 : Int)), IntKind.wrap .i64 (x0.2.2 + (1 : Int)))
    else some (x0.1, x0.2.1)) (by
    intro self out i k y hi hl hy _ hk0 hk1
    have hi' : i < out.length := by omega
    have w1 : IntKind.wrap .i64 (k + 1) = k + 1 := wr (by omega) (by omega)
    have w2 : IntKind.wrap .i64 (k + 1 + 1) = k + 1 + 1 := wr (by omega) (by omega)
    refine ⟨(k, k + 1), k + 1 + 1, ⟨rfl, rfl, by omega, by omega⟩, by omega, by omega, ?_⟩
    simp only [hl, show ((i : Int) < (a.length : Int)) from by omega, decide_true, cond_true, List.length_set, bnd_nat hi, hy, List.getElem?_set_self hi', Option.bind_some, List.set_set, w1, w2, and_true]
    rw [wr1 (by omega)]) (by
    intro self out k hl
    simp [hl])
  obtain ⟨t, c, e1, e2, e3, e4, e5⟩ := L
  refine ⟨t, c, ?_, ?_, e4, by omega⟩
  · show f_lmarkEdgeS BIG _ = _
    rw [e_lmarkEdgeS, e1]
    rfl
  · show f_lheldEdgeS BIG _ = _
    rw [e_lheldEdgeS, hdLoop hd_EdgeS t k c (by omega) e2]
    · rfl
    · intro self i kk kk' z hz ⟨g1, g2, g3, g4⟩
      subst g2
      rw [g1] at hz
      have hi := (List.getElem?_eq_some_iff.1 hz).1
      have w1 : IntKind.wrap .i64 (kk + 1) = kk + 1 := wr (by omega) (by omega)
      have w2 : IntKind.wrap .i64 (kk + 1 + 1) = kk + 1 + 1 := wr (by omega) (by omega)
      simp only [show ((i : Int) < (t.length : Int)) from by omega, decide_true, cond_true, bnd_nat hi, hz, Option.bind_some, w1, w2, Bool.not_true, cond_false, beq_self_eq_true]
      rw [wr1 (by omega)]
    · intro self k
      simp
theorem eq_Answer (x0 : Int) (x1 : Bool) (x2 : List (Int × Int)) (x3 : List (Int)) (h : (x2.length + x3.length) ≤ 4294967296) : g_leqAnswer ((x0, x1, x2, x3), (x0, x1, x2, x3)) = some (true, ()) := by
  show f_leqAnswer BIG _ = _
  rw [e_leqAnswer]
  dsimp only
  rw [decide_eq_true rfl, Bool.not_true, cond_false]
  rw [beq_self_eq_true, Bool.not_true, cond_false]
  rw [eq_EdgeS x2 x2 (by omega), Option.bind_some]
  rw [decide_eq_true rfl, Bool.not_true, cond_false]
  rw [eq_IntS x3 x3 (by omega), Option.bind_some]
  rw [decide_eq_true rfl, Bool.not_true, cond_false]
theorem eq_Order (x0 : Int) (x1 : Int) (x2 : List (Int × Int)) (x3 : Int) (h : (x2.length) ≤ 4294967296) : g_leqOrder ((x0, x1, x2, x3), (x0, x1, x2, x3)) = some (true, ()) := by
  show f_leqOrder BIG _ = _
  rw [e_leqOrder]
  dsimp only
  rw [decide_eq_true rfl, Bool.not_true, cond_false]
  rw [decide_eq_true rfl, Bool.not_true, cond_false]
  rw [eq_EdgeS x2 x2 (by omega), Option.bind_some]
  rw [decide_eq_true rfl, Bool.not_true, cond_false]
  rw [decide_eq_true rfl, Bool.not_true, cond_false]
theorem eq_Rec (x0 : Int) (x1 : Int) (x2 : Int) (x3 : Int) (x4 : Int) (x5 : Int) (x6 : Int) (x7 : Bool) (x8 : List (Int × Int)) (x9 : List (Int)) (x10 : Int) (x11 : Int) (x12 : List (Int × Int)) (x13 : Int) (h : (x8.length + x9.length + x12.length) ≤ 4294967296) : g_leqRec ((x0, x1, x2, x3, x4, x5, x6, x7, x8, x9, x10, x11, x12, x13), (x0, x1, x2, x3, x4, x5, x6, x7, x8, x9, x10, x11, x12, x13)) = some (true, ()) := by
  show f_leqRec BIG _ = _
  rw [e_leqRec]
  dsimp only
  rw [decide_eq_true rfl, Bool.not_true, cond_false]
  rw [eq_Ask, Option.bind_some]
  rw [decide_eq_true rfl, Bool.not_true, cond_false]
  rw [decide_eq_true rfl, Bool.not_true, cond_false]
  rw [eq_Answer x6 x7 x8 x9 (by omega), Option.bind_some]
  rw [Bool.not_true, cond_false]
  rw [eq_Order x10 x11 x12 x13 (by omega), Option.bind_some]
  rw [Bool.not_true, cond_false]
def z_RecS (a : List (Int × Int × Int × Int × Int × Int × Int × Bool × List (Int × Int) × List (Int) × Int × Int × List (Int × Int) × Int)) : Nat := a.length + (a.map fun y => (y.2.2.2.2.2.2.2.2.1.length + y.2.2.2.2.2.2.2.2.2.1.length + y.2.2.2.2.2.2.2.2.2.2.2.2.1.length)).sum
theorem z_RecS_mem {a : List (Int × Int × Int × Int × Int × Int × Int × Bool × List (Int × Int) × List (Int) × Int × Int × List (Int × Int) × Int)} {y : Int × Int × Int × Int × Int × Int × Int × Bool × List (Int × Int) × List (Int) × Int × Int × List (Int × Int) × Int} (h : y ∈ a) : (y.2.2.2.2.2.2.2.2.1.length + y.2.2.2.2.2.2.2.2.2.1.length + y.2.2.2.2.2.2.2.2.2.2.2.2.1.length) ≤ z_RecS a := by
  have : ∀ a : List (Int × Int × Int × Int × Int × Int × Int × Bool × List (Int × Int) × List (Int) × Int × Int × List (Int × Int) × Int), y ∈ a → (y.2.2.2.2.2.2.2.2.1.length + y.2.2.2.2.2.2.2.2.2.1.length + y.2.2.2.2.2.2.2.2.2.2.2.2.1.length) ≤ (a.map fun y => (y.2.2.2.2.2.2.2.2.1.length + y.2.2.2.2.2.2.2.2.2.1.length + y.2.2.2.2.2.2.2.2.2.2.2.2.1.length)).sum := by
    intro a
    induction a with
    | nil => intro h; cases h
    | cons x a ih =>
      intro h
      rw [List.map_cons, List.sum_cons]
      rcases List.mem_cons.1 h with rfl | h
      · omega
      · have := ih h; omega
  have := this a h
  unfold z_RecS; omega
theorem eq_RecS (a : List (Int × Int × Int × Int × Int × Int × Int × Bool × List (Int × Int) × List (Int) × Int × Int × List (Int × Int) × Int)) (h : z_RecS a ≤ 4294967296) : g_leqRecS (a, a) = some (true, ()) := by
  have hm : maxLen = 9223372036854775807 := by decide
  have h1 : a.length ≤ 4294967296 := by unfold z_RecS at h; omega
  show f_leqRecS BIG _ = _
  rw [e_leqRecS, decide_eq_true rfl, Bool.not_true, cond_false, allLoop a (by omega) (fun _ => true) false]
  · rw [if_pos (fun _ _ => rfl)]; rfl
  · intro self i y hy
    have hi := (List.getElem?_eq_some_iff.1 hy).1
    have hz := z_RecS_mem (List.mem_of_getElem? hy)
    have e : g_leqRec (y, y) = some (true, ()) := eq_Rec y.1 y.2.1 y.2.2.1 y.2.2.2.1 y.2.2.2.2.1 y.2.2.2.2.2.1 y.2.2.2.2.2.2.1 y.2.2.2.2.2.2.2.1 y.2.2.2.2.2.2.2.2.1 y.2.2.2.2.2.2.2.2.2.1 y.2.2.2.2.2.2.2.2.2.2.1 y.2.2.2.2.2.2.2.2.2.2.2.1 y.2.2.2.2.2.2.2.2.2.2.2.2.1 y.2.2.2.2.2.2.2.2.2.2.2.2.2 (by omega)
    simp only [show ((i : Int) < (a.length : Int)) from by omega, decide_true, cond_true]
    rw [bnd_nat hi, hy, Option.bind_some, bnd_nat hi, hy, Option.bind_some, e, Option.bind_some, wr1 (by omega)]
    rfl
  · intro self; simp
def hd_RecS (k : Int) (z : Int × Int × Int × Int × Int × Int × Int × Bool × List (Int × Int) × List (Int) × Int × Int × List (Int × Int) × Int) (k' : Int) : Prop := ∃ c8 c9 c12 : Int, (z.1 = k ∧ z.2.1 = k + 1 ∧ z.2.2.1 = k + 1 + 1 ∧ z.2.2.2.1 = k + 1 + 1 + 1 ∧ z.2.2.2.2.1 = k + 1 + 1 + 1 + 1 ∧ z.2.2.2.2.2.1 = k + 1 + 1 + 1 + 1 + 1 ∧ z.2.2.2.2.2.2.1 = k + 1 + 1 + 1 + 1 + 1 + 1 ∧ z.2.2.2.2.2.2.2.1 = decide (Int.tmod (k + 1 + 1 + 1 + 1 + 1 + 1 + 1) 3 = 0) ∧ z.2.2.2.2.2.2.2.2.2.2.1 = c9 ∧ z.2.2.2.2.2.2.2.2.2.2.2.1 = c9 + 1 ∧ z.2.2.2.2.2.2.2.2.2.2.2.2.2 = c12) ∧ (g_lheldEdgeS (z.2.2.2.2.2.2.2.2.1, k + 1 + 1 + 1 + 1 + 1 + 1 + 1 + 1) = some (c8, ()) ∧ g_lheldIntS (z.2.2.2.2.2.2.2.2.2.1, c8) = some (c9, ()) ∧ g_lheldEdgeS (z.2.2.2.2.2.2.2.2.2.2.2.2.1, c9 + 1 + 1) = some (c12, ())) ∧ (k + 1 + 1 + 1 + 1 + 1 + 1 + 1 + 1 ≤ c8 ∧ c8 ≤ c9 ∧ c9 + 1 + 1 ≤ c12 ∧ c12 ≤ 4611686018427387000) ∧ k' = c12 + 1 ∧ 0 ≤ k
theorem hw_RecS (kk c8 c9 c12 : Int) (h0 : 0 ≤ kk) (hb : kk + 1 + 1 + 1 + 1 + 1 + 1 + 1 + 1 ≤ c8 ∧ c8 ≤ c9 ∧ c9 + 1 + 1 ≤ c12 ∧ c12 ≤ 4611686018427387000) : IntKind.wrap .i64 (kk + 1) = kk + 1 ∧ IntKind.wrap .i64 (kk + 1 + 1) = kk + 1 + 1 ∧ IntKind.wrap .i64 (kk + 1 + 1 + 1) = kk + 1 + 1 + 1 ∧ IntKind.wrap .i64 (kk + 1 + 1 + 1 + 1) = kk + 1 + 1 + 1 + 1 ∧ IntKind.wrap .i64 (kk + 1 + 1 + 1 + 1 + 1) = kk + 1 + 1 + 1 + 1 + 1 ∧ IntKind.wrap .i64 (kk + 1 + 1 + 1 + 1 + 1 + 1) = kk + 1 + 1 + 1 + 1 + 1 + 1 ∧ IntKind.wrap .i64 (kk + 1 + 1 + 1 + 1 + 1 + 1 + 1) = kk + 1 + 1 + 1 + 1 + 1 + 1 + 1 ∧ IntKind.wrap .i64 (kk + 1 + 1 + 1 + 1 + 1 + 1 + 1 + 1) = kk + 1 + 1 + 1 + 1 + 1 + 1 + 1 + 1 ∧ IntKind.wrap .i64 (c9 + 1) = c9 + 1 ∧ IntKind.wrap .i64 (c9 + 1 + 1) = c9 + 1 + 1 ∧ IntKind.wrap .i64 (c12 + 1) = c12 + 1 ∧ decide (c8 < 0) = false ∧ decide (c9 < 0) = false ∧ decide (c12 < 0) = false := by
  obtain ⟨b0, b1, b2, b3⟩ := hb
  exact ⟨wr (by omega) (by omega), wr (by omega) (by omega), wr (by omega) (by omega), wr (by omega) (by omega), wr (by omega) (by omega), wr (by omega) (by omega), wr (by omega) (by omega), wr (by omega) (by omega), wr (by omega) (by omega), wr (by omega) (by omega), wr (by omega) (by omega), decide_eq_false (by omega), decide_eq_false (by omega), decide_eq_false (by omega)⟩
theorem hx_RecS (t : List (Int × Int × Int × Int × Int × Int × Int × Bool × List (Int × Int) × List (Int) × Int × Int × List (Int × Int) × Int)) (k c : Int) (hl : t.length ≤ 4294967296) (h : HdL hd_RecS k t c) : g_lheldRecS (t, k) = some (c, ()) := by
  have hm : maxLen = 9223372036854775807 := by decide
  show f_lheldRecS BIG _ = _
  rw [e_lheldRecS, hdLoop hd_RecS t k c (by omega) h]
  · rfl
  · clear h
    intro self i kk kk' z hz hh
    have hi := (List.getElem?_eq_some_iff.1 hz).1
    have hlt : (i : Int) < (t.length : Int) := by omega
    have h1 : IntKind.wrap .i64 ((i : Int) + 1) = ((i + 1 : Nat) : Int) := wr1 (by omega)
    obtain ⟨c8, c9, c12, ⟨s0, s1, s2, s3, s4, s5, s6, s7, s8, s9, s10⟩, ⟨d8, d9, d12⟩, hb, gk, g0⟩ := hh
    obtain ⟨w0, w1, w2, w3, w4, w5, w6, w7, w8, w9, w10, n8, n9, n12⟩ := hw_RecS kk c8 c9 c12 g0 hb
    simp only [hlt, decide_true, cond_true, bnd_nat hi, hz, Option.bind_some, s0, s1, s2, s3, s4, s5, s6, s7, s8, s9, s10, w0, w1, w2, w3, w4, w5, w6, w7, w8, w9, w10, d8, d9, d12, Bool.not_true, cond_false, n8, n9, n12, show decide ((3 : Int) = 0) = false from rfl, cond_false, beq_self_eq_true]
    rw [gk, h1]
  · intro self k
    simp
theorem mh_RecS (a : List (Int × Int × Int × Int × Int × Int × Int × Bool × List (Int × Int) × List (Int) × Int × Int × List (Int × Int) × Int)) (k : Int) (h0 : 0 ≤ k) (hk : k + 1407375068102656 ≤ 4611686018427380000) (hz : z_RecS a ≤ 16777216) : ∃ t c, g_lmarkRecS (a, k) = some (c, t) ∧ g_lheldRecS (t, k) = some (c, ()) ∧ k ≤ c ∧ c ≤ k + 1407375068102656 := by
  have hm : maxLen = 9223372036854775807 := by decide
  have hl0 : a.length ≤ 16777216 := by unfold z_RecS at hz; omega
  have L := mkLoop hd_RecS 83886091 (by omega) a k (by omega) (F := fun self1 x0 =>
    bif decide (x0.2.2 < (x0.1.length : Int)) then
     bnd x0.1.length x0.2.2 fun n2 =>
     Option.bind x0.1[n2]? fun y3 =>
     bnd (x0.1.set n2 (x0.2.1, y3.2)).length x0.2.2 fun n4 =>
     Option.bind (x0.1.set n2 (x0.2.1, y3.2))[n4]? fun y5 =>
     bnd ((x0.1.set n2 (x0.2.1, y3.2)).set n4 (y5.1, IntKind.wrap .i64 (x0.2.1 + (1 : Int)), y5.2.2)).length x0.2.2 fun n6 =>
     Option.bind ((x0.1.set n2 (x0.2.1, y3.2)).set n4 (y5.1, IntKind.wrap .i64 (x0.2.1 + (1 : Int)), y5.2.2))[n6]? fun y7 =>
     bnd (((x0.1.set n2 (x0.2.1, y3.2)).set n4 (y5.1, IntKind.wrap .i64 (x0.2.1 + (1 : Int)), y5.2.2)).set n6 (y7.1, y7.2.1, IntKind.wrap .i64 ((IntKind.wrap .i64 (x0.2.1 + (1 : Int))) + (1 : Int)), y7.2.2.2)).length x0.2.2 fun n8 =>
     Option.bind (((x0.1.set n2 (x0.2.1, y3.2)).set n4 (y5.1, IntKind.wrap .i64 (x0.2.1 + (1 : Int)), y5.2.2)).set n6 (y7.1, y7.2.1, IntKind.wrap .i64 ((IntKind.wrap .i64 (x0.2.1 + (1 : Int))) + (1 : Int)), y7.2.2.2))[n8]? fun y9 =>
     bnd ((((x0.1.set n2 (x0.2.1, y3.2)).set n4 (y5.1, IntKind.wrap .i64 (x0.2.1 + (1 : Int)), y5.2.2)).set n6 (y7.1, y7.2.1, IntKind.wrap .i64 ((IntKind.wrap .i64 (x0.2.1 + (1 : Int))) + (1 : Int)), y7.2.2.2)).set n8 (y9.1, y9.2.1, y9.2.2.1, IntKind.wrap .i64 ((IntKind.wrap .i64 ((IntKind.wrap .i64 (x0.2.1 + (1 : Int))) + (1 : Int))) + (1 : Int)), y9.2.2.2.2)).length x0.2.2 fun n10 =>
     Option.bind ((((x0.1.set n2 (x0.2.1, y3.2)).set n4 (y5.1, IntKind.wrap .i64 (x0.2.1 + (1 : Int)), y5.2.2)).set n6 (y7.1, y7.2.1, IntKind.wrap .i64 ((IntKind.wrap .i64 (x0.2.1 + (1 : Int))) + (1 : Int)), y7.2.2.2)).set n8 (y9.1, y9.2.1, y9.2.2.1, IntKind.wrap .i64 ((IntKind.wrap .i64 ((IntKind.wrap .i64 (x0.2.1 + (1 : Int))) + (1 : Int))) + (1 : Int)), y9.2.2.2.2))[n10]? fun y11 =>
     bnd (((((x0.1.set n2 (x0.2.1, y3.2)).set n4 (y5.1, IntKind.wrap .i64 (x0.2.1 + (1 : Int)), y5.2.2)).set n6 (y7.1, y7.2.1, IntKind.wrap .i64 ((IntKind.wrap .i64 (x0.2.1 + (1 : Int))) + (1 : Int)), y7.2.2.2)).set n8 (y9.1, y9.2.1, y9.2.2.1, IntKind.wrap .i64 ((IntKind.wrap .i64 ((IntKind.wrap .i64 (x0.2.1 + (1 : Int))) + (1 : Int))) + (1 : Int)), y9.2.2.2.2)).set n10 (y11.1, y11.2.1, y11.2.2.1, y11.2.2.2.1, IntKind.wrap .i64 ((IntKind.wrap .i64 ((IntKind.wrap .i64 ((IntKind.wrap .i64 (x0.2.1 + (1 : Int))) + (1 : Int))) + (1 : Int))) + (1 : Int)), y11.2.2.2.2.2)).length x0.2.2 fun n12 =>
     Option.bind (((((x0.1.set n2 (x0.2.1, y3.2)).set n4 (y5.1, IntKind.wrap .i64 (x0.2.1 + (1 : Int)), y5.2.2)).set n6 (y7.1, y7.2.1, IntKind.wrap .i64 ((IntKind.wrap .i64 (x0.2.1 + (1 : Int))) + (1 : Int)), y7.2.2.2)).set n8 (y9.1, y9.2.1, y9.2.2.1, IntKind.wrap .i64 ((IntKind.wrap .i64 ((IntKind.wrap .i64 (x0.2.1 + (1 : Int))) + (1 : Int))) + (1 : Int)), y9.2.2.2.2)).set n10 (y11.1, y11.2.1, y11.2.2.1, y11.2.2.2.1, IntKind.wrap .i64 ((IntKind.wrap .i64 ((IntKind.wrap .i64 ((IntKind.wrap .i64 (x0.2.1 + (1 : Int))) + (1 : Int))) + (1 : Int))) + (1 : Int)), y11.2.2.2.2.2))[n12]? fun y13 =>
     bnd ((((((x0.1.set n2 (x0.2.1, y3.2)).set n4 (y5.1, IntKind.wrap .i64 (x0.2.1 + (1 : Int)), y5.2.2)).set n6 (y7.1, y7.2.1, IntKind.wrap .i64 ((IntKind.wrap .i64 (x0.2.1 + (1 : Int))) + (1 : Int)), y7.2.2.2)).set n8 (y9.1, y9.2.1, y9.2.2.1, IntKind.wrap .i64 ((IntKind.wrap .i64 ((IntKind.wrap .i64 (x0.2.1 + (1 : Int))) + (1 : Int))) + (1 : Int)), y9.2.2.2.2)).set n10 (y11.1, y11.2.1, y11.2.2.1, y11.2.2.2.1, IntKind.wrap .i64 ((IntKind.wrap .i64 ((IntKind.wrap .i64 ((IntKind.wrap .i64 (x0.2.1 + (1 : Int))) + (1 : Int))) + (1 : Int))) + (1 : Int)), y11.2.2.2.2.2)).set n12 (y13.1, y13.2.1, y13.2.2.1, y13.2.2.2.1, y13.2.2.2.2.1, IntKind.wrap .i64 ((IntKind.wrap .i64 ((IntKind.wrap .i64 ((IntKind.wrap .i64 ((IntKind.wrap .i64 (x0.2.1 + (1 : Int))) + (1 : Int))) + (1 : Int))) + (1 : Int))) + (1 : Int)), y13.2.2.2.2.2.2)).length x0.2.2 fun n14 =>
     Option.bind ((((((x0.1.set n2 (x0.2.1, y3.2)).set n4 (y5.1, IntKind.wrap .i64 (x0.2.1 + (1 : Int)), y5.2.2)).set n6 (y7.1, y7.2.1, IntKind.wrap .i64 ((IntKind.wrap .i64 (x0.2.1 + (1 : Int))) + (1 : Int)), y7.2.2.2)).set n8 (y9.1, y9.2.1, y9.2.2.1, IntKind.wrap .i64 ((IntKind.wrap .i64 ((IntKind.wrap .i64 (x0.2.1 + (1 : Int))) + (1 : Int))) + (1 : Int)), y9.2.2.2.2)).set n10 (y11.1, y11.2.1, y11.2.2.1, y11.2.2.2.1, IntKind.wrap .i64 ((IntKind.wrap .i64 ((IntKind.wrap .i64 ((IntKind.wrap .i64 (x0.2.1 + (1 : Int))) + (1 : Int))) + (1 : Int))) + (1 : Int)), y11.2.2.2.2.2)).set n12 (y13.1, y13.2.1, y13.2.2.1, y13.2.2.2.1, y13.2.2.2.2.1, IntKind.wrap .i64 ((IntKind.wrap .i64 ((IntKind.wrap .i64 ((IntKind.wrap .i64 ((IntKind.wrap .i64 (x0.2.1 + (1 : Int))) + (1 : Int))) + (1 : Int))) + (1 : Int))) + (1 : Int)), y13.2.2.2.2.2.2))[n14]? fun y15 =>
     bif decide ((3 : Int) = 0) then
      none
     else bnd (((((((x0.1.set n2 (x0.2.1, y3.2)).set n4 (y5.1, IntKind.wrap .i64 (x0.2.1 + (1 : Int)), y5.2.2)).set n6 (y7.1, y7.2.1, IntKind.wrap .i64 ((IntKind.wrap .i64 (x0.2.1 + (1 : Int))) + (1 : Int)), y7.2.2.2)).set n8 (y9.1, y9.2.1, y9.2.2.1, IntKind.wrap .i64 ((IntKind.wrap .i64 ((IntKind.wrap .i64 (x0.2.1 + (1 : Int))) + (1 : Int))) + (1 : Int)), y9.2.2.2.2)).set n10 (y11.1, y11.2.1, y11.2.2.1, y11.2.2.2.1, IntKind.wrap .i64 ((IntKind.wrap .i64 ((IntKind.wrap .i64 ((IntKind.wrap .i64 (x0.2.1 + (1 : Int))) + (1 : Int))) + (1 : Int))) + (1 : Int)), y11.2.2.2.2.2)).set n12 (y13.1, y13.2.1, y13.2.2.1, y13.2.2.2.1, y13.2.2.2.2.1, IntKind.wrap .i64 ((IntKind.wrap .i64 ((IntKind.wrap .i64 ((IntKind.wrap .i64 ((IntKind.wrap .i64 (x0.2.1 + (1 : Int))) + (1 : Int))) + (1 : Int))) + (1 : Int))) + (1 : Int)), y13.2.2.2.2.2.2)).set n14 (y15.1, y15.2.1, y15.2.2.1, y15.2.2.2.1, y15.2.2.2.2.1, y15.2.2.2.2.2.1, IntKind.wrap .i64 ((IntKind.wrap .i64 ((IntKind.wrap .i64 ((IntKind.wrap .i64 ((IntKind.wrap .i64 ((IntKind.wrap .i64 (x0.2.1 + (1 : Int))) + (1 : Int))) + (1 : Int))) + (1 : Int))) + (1 : Int))) + (1 : Int)), y15.2.2.2.2.2.2.2)).length x0.2.2 fun n16 =>
     Option.bind (((((((x0.1.set n2 (x0.2.1, y3.2)).set n4 (y5.1, IntKind.wrap .i64 (x0.2.1 + (1 : Int)), y5.2.2)).set n6 (y7.1, y7.2.1, IntKind.wrap .i64 ((IntKind.wrap .i64 (x0.2.1 + (1 : Int))) + (1 : Int)), y7.2.2.2)).set n8 (y9.1, y9.2.1, y9.2.2.1, IntKind.wrap .i64 ((IntKind.wrap .i64 ((IntKind.wrap .i64 (x0.2.1 + (1 : Int))) + (1 : Int))) + (1 : Int)), y9.2.2.2.2)).set n10 (y11.1, y11.2.1, y11.2.2.1, y11.2.2.2.1, IntKind.wrap .i64 ((IntKind.wrap .i64 ((IntKind.wrap .i64 ((IntKind.wrap .i64 (x0.2.1 + (1 : Int))) + (1 : Int))) + (1 : Int))) + (1 : Int)), y11.2.2.2.2.2)).set n12 (y13.1, y13.2.1, y13.2.2.1, y13.2.2.2.1, y13.2.2.2.2.1, IntKind.wrap .i64 ((IntKind.wrap .i64 ((IntKind.wrap .i64 ((IntKind.wrap .i64 ((IntKind.wrap .i64 (x0.2.1 + (1 : Int))) + (1 : Int))) + (1 : Int))) + (1 : Int))) + (1 : Int)), y13.2.2.2.2.2.2)).set n14 (y15.1, y15.2.1, y15.2.2.1, y15.2.2.2.1, y15.2.2.2.2.1, y15.2.2.2.2.2.1, IntKind.wrap .i64 ((IntKind.wrap .i64 ((IntKind.wrap .i64 ((IntKind.wrap .i64 ((IntKind.wrap .i64 ((IntKind.wrap .i64 (x0.2.1 + (1 : Int))) + (1 : Int))) + (1 : Int))) + (1 : Int))) + (1 : Int))) + (1 : Int)), y15.2.2.2.2.2.2.2))[n16]? fun y17 =>
     bnd ((((((((x0.1.set n2 (x0.2.1, y3.2)).set n4 (y5.1, IntKind.wrap .i64 (x0.2.1 + (1 : Int)), y5.2.2)).set n6 (y7.1, y7.2.1, IntKind.wrap .i64 ((IntKind.wrap .i64 (x0.2.1 + (1 : Int))) + (1 : Int)), y7.2.2.2)).set n8 (y9.1, y9.2.1, y9.2.2.1, IntKind.wrap .i64 ((IntKind.wrap .i64 ((IntKind.wrap .i64 (x0.2.1 + (1 : Int))) + (1 : Int))) + (1 : Int)), y9.2.2.2.2)).set n10 (y11.1, y11.2.1, y11.2.2.1, y11.2.2.2.1, IntKind.wrap .i64 ((IntKind.wrap .i64 ((IntKind.wrap .i64 ((IntKind.wrap .i64 (x0.2.1 + (1 : Int))) + (1 : Int))) + (1 : Int))) + (1 : Int)), y11.2.2.2.2.2)).set n12 (y13.1, y13.2.1, y13.2.2.1, y13.2.2.2.1, y13.2.2.2.2.1, IntKind.wrap .i64 ((IntKind.wrap .i64 ((IntKind.wrap .i64 ((IntKind.wrap .i64 ((IntKind.wrap .i64 (x0.2.1 + (1 : Int))) + (1 : Int))) + (1 : Int))) + (1 : Int))) + (1 : Int)), y13.2.2.2.2.2.2)).set n14 (y15.1, y15.2.1, y15.2.2.1, y15.2.2.2.1, y15.2.2.2.2.1, y15.2.2.2.2.2.1, IntKind.wrap .i64 ((IntKind.wrap .i64 ((IntKind.wrap .i64 ((IntKind.wrap .i64 ((IntKind.wrap .i64 ((IntKind.wrap .i64 (x0.2.1 + (1 : Int))) + (1 : Int))) + (1 : Int))) + (1 : Int))) + (1 : Int))) + (1 : Int)), y15.2.2.2.2.2.2.2)).set n16 (y17.1, y17.2.1, y17.2.2.1, y17.2.2.2.1, y17.2.2.2.2.1, y17.2.2.2.2.2.1, y17.2.2.2.2.2.2.1, decide ((Int.tmod (IntKind.wrap .i64 ((IntKind.wrap .i64 ((IntKind.wrap .i64 ((IntKind.wrap .i64 ((IntKind.wrap .i64 ((IntKind.wrap .i64 ((IntKind.wrap .i64 (x0.2.1 + (1 : Int))) + (1 : Int))) + (1 : Int))) + (1 : Int))) + (1 : Int))) + (1 : Int))) + (1 : Int))) (3 : Int)) = (0 : Int)), y17.2.2.2.2.2.2.2.2)).length x0.2.2 fun n18 =>
     Option.bind ((((((((x0.1.set n2 (x0.2.1, y3.2)).set n4 (y5.1, IntKind.wrap .i64 (x0.2.1 + (1 : Int)), y5.2.2)).set n6 (y7.1, y7.2.1, IntKind.wrap .i64 ((IntKind.wrap .i64 (x0.2.1 + (1 : Int))) + (1 : Int)), y7.2.2.2)).set n8 (y9.1, y9.2.1, y9.2.2.1, IntKind.wrap .i64 ((IntKind.wrap .i64 ((IntKind.wrap .i64 (x0.2.1 + (1 : Int))) + (1 : Int))) + (1 : Int)), y9.2.2.2.2)).set n10 (y11.1, y11.2.1, y11.2.2.1, y11.2.2.2.1, IntKind.wrap .i64 ((IntKind.wrap .i64 ((IntKind.wrap .i64 ((IntKind.wrap .i64 (x0.2.1 + (1 : Int))) + (1 : Int))) + (1 : Int))) + (1 : Int)), y11.2.2.2.2.2)).set n12 (y13.1, y13.2.1, y13.2.2.1, y13.2.2.2.1, y13.2.2.2.2.1, IntKind.wrap .i64 ((IntKind.wrap .i64 ((IntKind.wrap .i64 ((IntKind.wrap .i64 ((IntKind.wrap .i64 (x0.2.1 + (1 : Int))) + (1 : Int))) + (1 : Int))) + (1 : Int))) + (1 : Int)), y13.2.2.2.2.2.2)).set n14 (y15.1, y15.2.1, y15.2.2.1, y15.2.2.2.1, y15.2.2.2.2.1, y15.2.2.2.2.2.1, IntKind.wrap .i64 ((IntKind.wrap .i64 ((IntKind.wrap .i64 ((IntKind.wrap .i64 ((IntKind.wrap .i64 ((IntKind.wrap .i64 (x0.2.1 + (1 : Int))) + (1 : Int))) + (1 : Int))) + (1 : Int))) + (1 : Int))) + (1 : Int)), y15.2.2.2.2.2.2.2)).set n16 (y17.1, y17.2.1, y17.2.2.1, y17.2.2.2.1, y17.2.2.2.2.1, y17.2.2.2.2.2.1, y17.2.2.2.2.2.2.1, decide ((Int.tmod (IntKind.wrap .i64 ((IntKind.wrap .i64 ((IntKind.wrap .i64 ((IntKind.wrap .i64 ((IntKind.wrap .i64 ((IntKind.wrap .i64 ((IntKind.wrap .i64 (x0.2.1 + (1 : Int))) + (1 : Int))) + (1 : Int))) + (1 : Int))) + (1 : Int))) + (1 : Int))) + (1 : Int))) (3 : Int)) = (0 : Int)), y17.2.2.2.2.2.2.2.2))[n18]? fun y19 =>
     Option.bind (g_lmarkEdgeS (y19.2.2.2.2.2.2.2.2.1, IntKind.wrap .i64 ((IntKind.wrap .i64 ((IntKind.wrap .i64 ((IntKind.wrap .i64 ((IntKind.wrap .i64 ((IntKind.wrap .i64 ((IntKind.wrap .i64 ((IntKind.wrap .i64 (x0.2.1 + (1 : Int))) + (1 : Int))) + (1 : Int))) + (1 : Int))) + (1 : Int))) + (1 : Int))) + (1 : Int))) + (1 : Int)))) fun r20 =>
     Option.bind ((((((((x0.1.set n2 (x0.2.1, y3.2)).set n4 (y5.1, IntKind.wrap .i64 (x0.2.1 + (1 : Int)), y5.2.2)).set n6 (y7.1, y7.2.1, IntKind.wrap .i64 ((IntKind.wrap .i64 (x0.2.1 + (1 : Int))) + (1 : Int)), y7.2.2.2)).set n8 (y9.1, y9.2.1, y9.2.2.1, IntKind.wrap .i64 ((IntKind.wrap .i64 ((IntKind.wrap .i64 (x0.2.1 + (1 : Int))) + (1 : Int))) + (1 : Int)), y9.2.2.2.2)).set n10 (y11.1, y11.2.1, y11.2.2.1, y11.2.2.2.1, IntKind.wrap .i64 ((IntKind.wrap .i64 ((IntKind.wrap .i64 ((IntKind.wrap .i64 (x0.2.1 + (1 : Int))) + (1 : Int))) + (1 : Int))) + (1 : Int)), y11.2.2.2.2.2)).set n12 (y13.1, y13.2.1, y13.2.2.1, y13.2.2.2.1, y13.2.2.2.2.1, IntKind.wrap .i64 ((IntKind.wrap .i64 ((IntKind.wrap .i64 ((IntKind.wrap .i64 ((IntKind.wrap .i64 (x0.2.1 + (1 : Int))) + (1 : Int))) + (1 : Int))) + (1 : Int))) + (1 : Int)), y13.2.2.2.2.2.2)).set n14 (y15.1, y15.2.1, y15.2.2.1, y15.2.2.2.1, y15.2.2.2.2.1, y15.2.2.2.2.2.1, IntKind.wrap .i64 ((IntKind.wrap .i64 ((IntKind.wrap .i64 ((IntKind.wrap .i64 ((IntKind.wrap .i64 ((IntKind.wrap .i64 (x0.2.1 + (1 : Int))) + (1 : Int))) + (1 : Int))) + (1 : Int))) + (1 : Int))) + (1 : Int)), y15.2.2.2.2.2.2.2)).set n16 (y17.1, y17.2.1, y17.2.2.1, y17.2.2.2.1, y17.2.2.2.2.1, y17.2.2.2.2.2.1, y17.2.2.2.2.2.2.1, decide ((Int.tmod (IntKind.wrap .i64 ((IntKind.wrap .i64 ((IntKind.wrap .i64 ((IntKind.wrap .i64 ((IntKind.wrap .i64 ((IntKind.wrap .i64 ((IntKind.wrap .i64 (x0.2.1 + (1 : Int))) + (1 : Int))) + (1 : Int))) + (1 : Int))) + (1 : Int))) + (1 : Int))) + (1 : Int))) (3 : Int)) = (0 : Int)), y17.2.2.2.2.2.2.2.2))[n18]? fun y21 =>
     bnd (((((((((x0.1.set n2 (x0.2.1, y3.2)).set n4 (y5.1, IntKind.wrap .i64 (x0.2.1 + (1 : Int)), y5.2.2)).set n6 (y7.1, y7.2.1, IntKind.wrap .i64 ((IntKind.wrap .i64 (x0.2.1 + (1 : Int))) + (1 : Int)), y7.2.2.2)).set n8 (y9.1, y9.2.1, y9.2.2.1, IntKind.wrap .i64 ((IntKind.wrap .i64 ((IntKind.wrap .i64 (x0.2.1 + (1 : Int))) + (1 : Int))) + (1 : Int)), y9.2.2.2.2)).set n10 (y11.1, y11.2.1, y11.2.2.1, y11.2.2.2.1, IntKind.wrap .i64 ((IntKind.wrap .i64 ((IntKind.wrap .i64 ((IntKind.wrap .i64 (x0.2.1 + (1 : Int))) + (1 : Int))) + (1 : Int))) + (1 : Int)), y11.2.2.2.2.2)).set n12 (y13.1, y13.2.1, y13.2.2.1, y13.2.2.2.1, y13.2.2.2.2.1, IntKind.wrap .i64 ((IntKind.wrap .i64 ((IntKind.wrap .i64 ((IntKind.wrap .i64 ((IntKind.wrap .i64 (x0.2.1 + (1 : Int))) + (1 : Int))) + (1 : Int))) + (1 : Int))) + (1 : Int)), y13.2.2.2.2.2.2)).set n14 (y15.1, y15.2.1, y15.2.2.1, y15.2.2.2.1, y15.2.2.2.2.1, y15.2.2.2.2.2.1, IntKind.wrap .i64 ((IntKind.wrap .i64 ((IntKind.wrap .i64 ((IntKind.wrap .i64 ((IntKind.wrap .i64 ((IntKind.wrap .i64 (x0.2.1 + (1 : Int))) + (1 : Int))) + (1 : Int))) + (1 : Int))) + (1 : Int))) + (1 : Int)), y15.2.2.2.2.2.2.2)).set n16 (y17.1, y17.2.1, y17.2.2.1, y17.2.2.2.1, y17.2.2.2.2.1, y17.2.2.2.2.2.1, y17.2.2.2.2.2.2.1, decide ((Int.tmod (IntKind.wrap .i64 ((IntKind.wrap .i64 ((IntKind.wrap .i64 ((IntKind.wrap .i64 ((IntKind.wrap .i64 ((IntKind.wrap .i64 ((IntKind.wrap .i64 (x0.2.1 + (1 : Int))) + (1 : Int))) + (1 : Int))) + (1 : Int))) + (1 : Int))) + (1 : Int))) + (1 : Int))) (3 : Int)) = (0 : Int)), y17.2.2.2.2.2.2.2.2)).set n18 (y21.1, y21.2.1, y21.2.2.1, y21.2.2.2.1, y21.2.2.2.2.1, y21.2.2.2.2.2.1, y21.2.2.2.2.2.2.1, y21.2.2.2.2.2.2.2.1, r20.2, y21.2.2.2.2.2.2.2.2.2)).length x0.2.2 fun n22 =>
     Option.bind (((((((((x0.1.set n2 (x0.2.1, y3.2)).set n4 (y5.1, IntKind.wrap .i64 (x0.2.1 + (1 : Int)), y5.2.2)).set n6 (y7.1, y7.2.1, IntKind.wrap .i64 ((IntKind.wrap .i64 (x0.2.1 + (1 : Int))) + (1 : Int)), y7.2.2.2)).set n8 (y9.1, y9.2.1, y9.2.2.1, IntKind.wrap .i64 ((IntKind.wrap .i64 ((IntKind.wrap .i64 (x0.2.1 + (1 : Int))) + (1 : Int))) + (1 : Int)), y9.2.2.2.2)).set n10 (y11.1, y11.2.1, y11.2.2.1, y11.2.2.2.1, IntKind.wrap .i64 ((IntKind.wrap .i64 ((IntKind.wrap .i64 ((IntKind.wrap .i64 (x0.2.1 + (1 : Int))) + (1 : Int))) + (1 : Int))) + (1 : Int)), y11.2.2.2.2.2)).set n12 (y13.1, y13.2.1, y13.2.2.1, y13.2.2.2.1, y13.2.2.2.2.1, IntKind.wrap .i64 ((IntKind.wrap .i64 ((IntKind.wrap .i64 ((IntKind.wrap .i64 ((IntKind.wrap .i64 (x0.2.1 + (1 : Int))) + (1 : Int))) + (1 : Int))) + (1 : Int))) + (1 : Int)), y13.2.2.2.2.2.2)).set n14 (y15.1, y15.2.1, y15.2.2.1, y15.2.2.2.1, y15.2.2.2.2.1, y15.2.2.2.2.2.1, IntKind.wrap .i64 ((IntKind.wrap .i64 ((IntKind.wrap .i64 ((IntKind.wrap .i64 ((IntKind.wrap .i64 ((IntKind.wrap .i64 (x0.2.1 + (1 : Int))) + (1 : Int))) + (1 : Int))) + (1 : Int))) + (1 : Int))) + (1 : Int)), y15.2.2.2.2.2.2.2)).set n16 (y17.1, y17.2.1, y17.2.2.1, y17.2.2.2.1, y17.2.2.2.2.1, y17.2.2.2.2.2.1, y17.2.2.2.2.2.2.1, decide ((Int.tmod (IntKind.wrap .i64 ((IntKind.wrap .i64 ((IntKind.wrap .i64 ((IntKind.wrap .i64 ((IntKind.wrap .i64 ((IntKind.wrap .i64 ((IntKind.wrap .i64 (x0.2.1 + (1 : Int))) + (1 : Int))) + (1 : Int))) + (1 : Int))) + (1 : Int))) + (1 : Int))) + (1 : Int))) (3 : Int)) = (0 : Int)), y17.2.2.2.2.2.2.2.2)).set n18 (y21.1, y21.2.1, y21.2.2.1, y21.2.2.2.1, y21.2.2.2.2.1, y21.2.2.2.2.2.1, y21.2.2.2.2.2.2.1, y21.2.2.2.2.2.2.2.1, r20.2, y21.2.2.2.2.2.2.2.2.2))[n22]? fun y23 =>
     Option.bind (g_lmarkIntS (y23.2.2.2.2.2.2.2.2.2.1, r20.1)) fun r24 =>
     Option.bind (((((((((x0.1.set n2 (x0.2.1, y3.2)).set n4 (y5.1, IntKind.wrap .i64 (x0.2.1 + (1 : Int)), y5.2.2)).set n6 (y7.1, y7.2.1, IntKind.wrap .i64 ((IntKind.wrap .i64 (x0.2.1 + (1 : Int))) + (1 : Int)), y7.2.2.2)).set n8 (y9.1, y9.2.1, y9.2.2.1, IntKind.wrap .i64 ((IntKind.wrap .i64 ((IntKind.wrap .i64 (x0.2.1 + (1 : Int))) + (1 : Int))) + (1 : Int)), y9.2.2.2.2)).set n10 (y11.1, y11.2.1, y11.2.2.1, y11.2.2.2.1, IntKind.wrap .i64 ((IntKind.wrap .i64 ((IntKind.wrap .i64 ((IntKind.wrap .i64 (x0.2.1 + (1 : Int))) + (1 : Int))) + (1 : Int))) + (1 : Int)), y11.2.2.2.2.2)).set n12 (y13.1, y13.2.1, y13.2.2.1, y13.2.2.2.1, y13.2.2.2.2.1, IntKind.wrap .i64 ((IntKind.wrap .i64 ((IntKind.wrap .i64 ((IntKind.wrap .i64 ((IntKind.wrap .i64 (x0.2.1 + (1 : Int))) + (1 : Int))) + (1 : Int))) + (1 : Int))) + (1 : Int)), y13.2.2.2.2.2.2)).set n14 (y15.1, y15.2.1, y15.2.2.1, y15.2.2.2.1, y15.2.2.2.2.1, y15.2.2.2.2.2.1, IntKind.wrap .i64 ((IntKind.wrap .i64 ((IntKind.wrap .i64 ((IntKind.wrap .i64 ((IntKind.wrap .i64 ((IntKind.wrap .i64 (x0.2.1 + (1 : Int))) + (1 : Int))) + (1 : Int))) + (1 : Int))) + (1 : Int))) + (1 : Int)), y15.2.2.2.2.2.2.2)).set n16 (y17.1, y17.2.1, y17.2.2.1, y17.2.2.2.1, y17.2.2.2.2.1, y17.2.2.2.2.2.1, y17.2.2.2.2.2.2.1, decide ((Int.tmod (IntKind.wrap .i64 ((IntKind.wrap .i64 ((IntKind.wrap .i64 ((IntKind.wrap .i64 ((IntKind.wrap .i64 ((IntKind.wrap .i64 ((IntKind.wrap .i64 (x0.2.1 + (1 : Int))) + (1 : Int))) + (1 : Int))) + (1 : Int))) + (1 : Int))) + (1 : Int))) + (1 : Int))) (3 : Int)) = (0 : Int)), y17.2.2.2.2.2.2.2.2)).set n18 (y21.1, y21.2.1, y21.2.2.1, y21.2.2.2.1, y21.2.2.2.2.1, y21.2.2.2.2.2.1, y21.2.2.2.2.2.2.1, y21.2.2.2.2.2.2.2.1, r20.2, y21.2.2.2.2.2.2.2.2.2))[n22]? fun y25 =>
     bnd ((((((((((x0.1.set n2 (x0.2.1, y3.2)).set n4 (y5.1, IntKind.wrap .i64 (x0.2.1 + (1 : Int)), y5.2.2)).set n6 (y7.1, y7.2.1, IntKind.wrap .i64 ((IntKind.wrap .i64 (x0.2.1 + (1 : Int))) + (1 : Int)), y7.2.2.2)).set n8 (y9.1, y9.2.1, y9.2.2.1, IntKind.wrap .i64 ((IntKind.wrap .i64 ((IntKind.wrap .i64 (x0.2.1 + (1 : Int))) + (1 : Int))) + (1 : Int)), y9.2.2.2.2)).set n10 (y11.1, y11.2.1, y11.2.2.1, y11.2.2.2.1, IntKind.wrap .i64 ((IntKind.wrap .i64 ((IntKind.wrap .i64 ((IntKind.wrap .i64 (x0.2.1 + (1 : Int))) + (1 : Int))) + (1 : Int))) + (1 : Int)), y11.2.2.2.2.2)).set n12 (y13.1, y13.2.1, y13.2.2.1, y13.2.2.2.1, y13.2.2.2.2.1, IntKind.wrap .i64 ((IntKind.wrap .i64 ((IntKind.wrap .i64 ((IntKind.wrap .i64 ((IntKind.wrap .i64 (x0.2.1 + (1 : Int))) + (1 : Int))) + (1 : Int))) + (1 : Int))) + (1 : Int)), y13.2.2.2.2.2.2)).set n14 (y15.1, y15.2.1, y15.2.2.1, y15.2.2.2.1, y15.2.2.2.2.1, y15.2.2.2.2.2.1, IntKind.wrap .i64 ((IntKind.wrap .i64 ((IntKind.wrap .i64 ((IntKind.wrap .i64 ((IntKind.wrap .i64 ((IntKind.wrap .i64 (x0.2.1 + (1 : Int))) + (1 : Int))) + (1 : Int))) + (1 : Int))) + (1 : Int))) + (1 : Int)), y15.2.2.2.2.2.2.2)).set n16 (y17.1, y17.2.1, y17.2.2.1, y17.2.2.2.1, y17.2.2.2.2.1, y17.2.2.2.2.2.1, y17.2.2.2.2.2.2.1, decide ((Int.tmod (IntKind.wrap .i64 ((IntKind.wrap .i64 ((IntKind.wrap .i64 ((IntKind.wrap .i64 ((IntKind.wrap .i64 ((IntKind.wrap .i64 ((IntKind.wrap .i64 (x0.2.1 + (1 : Int))) + (1 : Int))) + (1 : Int))) + (1 : Int))) + (1 : Int))) + (1 : Int))) + (1 : Int))) (3 : Int)) = (0 : Int)), y17.2.2.2.2.2.2.2.2)).set n18 (y21.1, y21.2.1, y21.2.2.1, y21.2.2.2.1, y21.2.2.2.2.1, y21.2.2.2.2.2.1, y21.2.2.2.2.2.2.1, y21.2.2.2.2.2.2.2.1, r20.2, y21.2.2.2.2.2.2.2.2.2)).set n22 (y25.1, y25.2.1, y25.2.2.1, y25.2.2.2.1, y25.2.2.2.2.1, y25.2.2.2.2.2.1, y25.2.2.2.2.2.2.1, y25.2.2.2.2.2.2.2.1, y25.2.2.2.2.2.2.2.2.1, r24.2, y25.2.2.2.2.2.2.2.2.2.2)).length x0.2.2 fun n26 =>
     Option.bind ((((((((((x0.1.set n2 (x0.2.1, y3.2)).set n4 (y5.1, IntKind.wrap .i64 (x0.2.1 + (1 : Int)), y5.2.2)).set n6 (y7.1, y7.2.1, IntKind.wrap .i64 ((IntKind.wrap .i64 (x0.2.1 + (1 : Int))) + (1 : Int)), y7.2.2.2)).set n8 (y9.1, y9.2.1, y9.2.2.1, IntKind.wrap .i64 ((IntKind.wrap .i64 ((IntKind.wrap .i64 (x0.2.1 + (1 : Int))) + (1 : Int))) + (1 : Int)), y9.2.2.2.2)).set n10 (y11.1, y11.2.1, y11.2.2.1, y11.2.2.2.1, IntKind.wrap .i64 ((IntKind.wrap .i64 ((IntKind.wrap .i64 ((IntKind.wrap .i64 (x0.2.1 + (1 : Int))) + (1 : Int))) + (1 : Int))) + (1 : Int)), y11.2.2.2.2.2)).set n12 (y13.1, y13.2.1, y13.2.2.1, y13.2.2.2.1, y13.2.2.2.2.1, IntKind.wrap .i64 ((IntKind.wrap .i64 ((IntKind.wrap .i64 ((IntKind.wrap .i64 ((IntKind.wrap .i64 (x0.2.1 + (1 : Int))) + (1 : Int))) + (1 : Int))) + (1 : Int))) + (1 : Int)), y13.2.2.2.2.2.2)).set n14 (y15.1, y15.2.1, y15.2.2.1, y15.2.2.2.1, y15.2.2.2.2.1, y15.2.2.2.2.2.1, IntKind.wrap .i64 ((IntKind.wrap .i64 ((IntKind.wrap .i64 ((IntKind.wrap .i64 ((IntKind.wrap .i64 ((IntKind.wrap .i64 (x0.2.1 + (1 : Int))) + (1 : Int))) + (1 : Int))) + (1 : Int))) + (1 : Int))) + (1 : Int)), y15.2.2.2.2.2.2.2)).set n16 (y17.1, y17.2.1, y17.2.2.1, y17.2.2.2.1, y17.2.2.2.2.1, y17.2.2.2.2.2.1, y17.2.2.2.2.2.2.1, decide ((Int.tmod (IntKind.wrap .i64 ((IntKind.wrap .i64 ((IntKind.wrap .i64 ((IntKind.wrap .i64 ((IntKind.wrap .i64 ((IntKind.wrap .i64 ((IntKind.wrap .i64 (x0.2.1 + (1 : Int))) + (1 : Int))) + (1 : Int))) + (1 : Int))) + (1 : Int))) + (1 : Int))) + (1 : Int))) (3 : Int)) = (0 : Int)), y17.2.2.2.2.2.2.2.2)).set n18 (y21.1, y21.2.1, y21.2.2.1, y21.2.2.2.1, y21.2.2.2.2.1, y21.2.2.2.2.2.1, y21.2.2.2.2.2.2.1, y21.2.2.2.2.2.2.2.1, r20.2, y21.2.2.2.2.2.2.2.2.2)).set n22 (y25.1, y25.2.1, y25.2.2.1, y25.2.2.2.1, y25.2.2.2.2.1, y25.2.2.2.2.2.1, y25.2.2.2.2.2.2.1, y25.2.2.2.2.2.2.2.1, y25.2.2.2.2.2.2.2.2.1, r24.2, y25.2.2.2.2.2.2.2.2.2.2))[n26]? fun y27 =>
     bnd (((((((((((x0.1.set n2 (x0.2.1, y3.2)).set n4 (y5.1, IntKind.wrap .i64 (x0.2.1 + (1 : Int)), y5.2.2)).set n6 (y7.1, y7.2.1, IntKind.wrap .i64 ((IntKind.wrap .i64 (x0.2.1 + (1 : Int))) + (1 : Int)), y7.2.2.2)).set n8 (y9.1, y9.2.1, y9.2.2.1, IntKind.wrap .i64 ((IntKind.wrap .i64 ((IntKind.wrap .i64 (x0.2.1 + (1 : Int))) + (1 : Int))) + (1 : Int)), y9.2.2.2.2)).set n10 (y11.1, y11.2.1, y11.2.2.1, y11.2.2.2.1, IntKind.wrap .i64 ((IntKind.wrap .i64 ((IntKind.wrap .i64 ((IntKind.wrap .i64 (x0.2.1 + (1 : Int))) + (1 : Int))) + (1 : Int))) + (1 : Int)), y11.2.2.2.2.2)).set n12 (y13.1, y13.2.1, y13.2.2.1, y13.2.2.2.1, y13.2.2.2.2.1, IntKind.wrap .i64 ((IntKind.wrap .i64 ((IntKind.wrap .i64 ((IntKind.wrap .i64 ((IntKind.wrap .i64 (x0.2.1 + (1 : Int))) + (1 : Int))) + (1 : Int))) + (1 : Int))) + (1 : Int)), y13.2.2.2.2.2.2)).set n14 (y15.1, y15.2.1, y15.2.2.1, y15.2.2.2.1, y15.2.2.2.2.1, y15.2.2.2.2.2.1, IntKind.wrap .i64 ((IntKind.wrap .i64 ((IntKind.wrap .i64 ((IntKind.wrap .i64 ((IntKind.wrap .i64 ((IntKind.wrap .i64 (x0.2.1 + (1 : Int))) + (1 : Int))) + (1 : Int))) + (1 : Int))) + (1 : Int))) + (1 : Int)), y15.2.2.2.2.2.2.2)).set n16 (y17.1, y17.2.1, y17.2.2.1, y17.2.2.2.1, y17.2.2.2.2.1, y17.2.2.2.2.2.1, y17.2.2.2.2.2.2.1, decide ((Int.tmod (IntKind.wrap .i64 ((IntKind.wrap .i64 ((IntKind.wrap .i64 ((IntKind.wrap .i64 ((IntKind.wrap .i64 ((IntKind.wrap .i64 ((IntKind.wrap .i64 (x0.2.1 + (1 : Int))) + (1 : Int))) + (1 : Int))) + (1 : Int))) + (1 : Int))) + (1 : Int))) + (1 : Int))) (3 : Int)) = (0 : Int)), y17.2.2.2.2.2.2.2.2)).set n18 (y21.1, y21.2.1, y21.2.2.1, y21.2.2.2.1, y21.2.2.2.2.1, y21.2.2.2.2.2.1, y21.2.2.2.2.2.2.1, y21.2.2.2.2.2.2.2.1, r20.2, y21.2.2.2.2.2.2.2.2.2)).set n22 (y25.1, y25.2.1, y25.2.2.1, y25.2.2.2.1, y25.2.2.2.2.1, y25.2.2.2.2.2.1, y25.2.2.2.2.2.2.1, y25.2.2.2.2.2.2.2.1, y25.2.2.2.2.2.2.2.2.1, r24.2, y25.2.2.2.2.2.2.2.2.2.2)).set n26 (y27.1, y27.2.1, y27.2.2.1, y27.2.2.2.1, y27.2.2.2.2.1, y27.2.2.2.2.2.1, y27.2.2.2.2.2.2.1, y27.2.2.2.2.2.2.2.1, y27.2.2.2.2.2.2.2.2.1, y27.2.2.2.2.2.2.2.2.2.1, r24.1, y27.2.2.2.2.2.2.2.2.2.2.2)).length x0.2.2 fun n28 =>
     Option.bind (((((((((((x0.1.set n2 (x0.2.1, y3.2)).set n4 (y5.1, IntKind.wrap .i64 (x0.2.1 + (1 : Int)), y5.2.2)).set n6 (y7.1, y7.2.1, IntKind.wrap .i64 ((IntKind.wrap .i64 (x0.2.1 + (1 : Int))) + (1 : Int)), y7.2.2.2)).set n8 (y9.1, y9.2.1, y9.2.2.1, IntKind.wrap .i64 ((IntKind.wrap .i64 ((IntKind.wrap .i64 (x0.2.1 + (1 : Int))) + (1 : Int))) + (1 : Int)), y9.2.2.2.2)).set n10 (y11.1, y11.2.1, y11.2.2.1, y11.2.2.2.1, IntKind.wrap .i64 ((IntKind.wrap .i64 ((IntKind.wrap .i64 ((IntKind.wrap .i64 (x0.2.1 + (1 : Int))) + (1 : Int))) + (1 : Int))) + (1 : Int)), y11.2.2.2.2.2)).set n12 (y13.1, y13.2.1, y13.2.2.1, y13.2.2.2.1, y13.2.2.2.2.1, IntKind.wrap .i64 ((IntKind.wrap .i64 ((IntKind.wrap .i64 ((IntKind.wrap .i64 ((IntKind.wrap .i64 (x0.2.1 + (1 : Int))) + (1 : Int))) + (1 : Int))) + (1 : Int))) + (1 : Int)), y13.2.2.2.2.2.2)).set n14 (y15.1, y15.2.1, y15.2.2.1, y15.2.2.2.1, y15.2.2.2.2.1, y15.2.2.2.2.2.1, IntKind.wrap .i64 ((IntKind.wrap .i64 ((IntKind.wrap .i64 ((IntKind.wrap .i64 ((IntKind.wrap .i64 ((IntKind.wrap .i64 (x0.2.1 + (1 : Int))) + (1 : Int))) + (1 : Int))) + (1 : Int))) + (1 : Int))) + (1 : Int)), y15.2.2.2.2.2.2.2)).set n16 (y17.1, y17.2.1, y17.2.2.1, y17.2.2.2.1, y17.2.2.2.2.1, y17.2.2.2.2.2.1, y17.2.2.2.2.2.2.1, decide ((Int.tmod (IntKind.wrap .i64 ((IntKind.wrap .i64 ((IntKind.wrap .i64 ((IntKind.wrap .i64 ((IntKind.wrap .i64 ((IntKind.wrap .i64 ((IntKind.wrap .i64 (x0.2.1 + (1 : Int))) + (1 : Int))) + (1 : Int))) + (1 : Int))) + (1 : Int))) + (1 : Int))) + (1 : Int))) (3 : Int)) = (0 : Int)), y17.2.2.2.2.2.2.2.2)).set n18 (y21.1, y21.2.1, y21.2.2.1, y21.2.2.2.1, y21.2.2.2.2.1, y21.2.2.2.2.2.1, y21.2.2.2.2.2.2.1, y21.2.2.2.2.2.2.2.1, r20.2, y21.2.2.2.2.2.2.2.2.2)).set n22 (y25.1, y25.2.1, y25.2.2.1, y25.2.2.2.1, y25.2.2.2.2.1, y25.2.2.2.2.2.1, y25.2.2.2.2.2.2.1, y25.2.2.2.2.2.2.2.1, y25.2.2.2.2.2.2.2.2.1, r24.2, y25.2.2.2.2.2.2.2.2.2.2)).set n26 (y27.1, y27.2.1, y27.2.2.1, y27.2.2.2.1, y27.2.2.2.2.1, y27.2.2.2.2.2.1, y27.2.2.2.2.2.2.1, y27.2.2.2.2.2.2.2.1, y27.2.2.2.2.2.2.2.2.1, y27.2.2.2.2.2.2.2.2.2.1, r24.1, y27.2.2.2.2.2.2.2.2.2.2.2))[n28]? fun y29 =>
     bnd ((((((((((((x0.1.set n2 (x0.2.1, y3.2)).set n4 (y5.1, IntKind.wrap .i64 (x0.2.1 + (1 : Int)), y5.2.2)).set n6 (y7.1, y7.2.1, IntKind.wrap .i64 ((IntKind.wrap .i64 (x0.2.1 + (1 : Int))) + (1 : Int)), y7.2.2.2)).set n8 (y9.1, y9.2.1, y9.2.2.1, IntKind.wrap .i64 ((IntKind.wrap .i64 ((IntKind.wrap .i64 (x0.2.1 + (1 : Int))) + (1 : Int))) + (1 : Int)), y9.2.2.2.2)).set n10 (y11.1, y11.2.1, y11.2.2.1, y11.2.2.2.1, IntKind.wrap .i64 ((IntKind.wrap .i64 ((IntKind.wrap .i64 ((IntKind.wrap .i64 (x0.2.1 + (1 : Int))) + (1 : Int))) + (1 : Int))) + (1 : Int)), y11.2.2.2.2.2)).set n12 (y13.1, y13.2.1, y13.2.2.1, y13.2.2.2.1, y13.2.2.2.2.1, IntKind.wrap .i64 ((IntKind.wrap .i64 ((IntKind.wrap .i64 ((IntKind.wrap .i64 ((IntKind.wrap .i64 (x0.2.1 + (1 : Int))) + (1 : Int))) + (1 : Int))) + (1 : Int))) + (1 : Int)), y13.2.2.2.2.2.2)).set n14 (y15.1, y15.2.1, y15.2.2.1, y15.2.2.2.1, y15.2.2.2.2.1, y15.2.2.2.2.2.1, IntKind.wrap .i64 ((IntKind.wrap .i64 ((IntKind.wrap .i64 ((IntKind.wrap .i64 ((IntKind.wrap .i64 ((IntKind.wrap .i64 (x0.2.1 + (1 : Int))) + (1 : Int))) + (1 : Int))) + (1 : Int))) + (1 : Int))) + (1 : Int)), y15.2.2.2.2.2.2.2)).set n16 (y17.1, y17.2.1, y17.2.2.1, y17.2.2.2.1, y17.2.2.2.2.1, y17.2.2.2.2.2.1, y17.2.2.2.2.2.2.1, decide ((Int.tmod (IntKind.wrap .i64 ((IntKind.wrap .i64 ((IntKind.wrap .i64 ((IntKind.wrap .i64 ((IntKind.wrap .i64 ((IntKind.wrap .i64 ((IntKind.wrap .i64 (x0.2.1 + (1 : Int))) + (1 : Int))) + (1 : Int))) + (1 : Int))) + (1 : Int))) + (1 : Int))) + (1 : Int))) (3 : Int)) = (0 : Int)), y17.2.2.2.2.2.2.2.2)).set n18 (y21.1, y21.2.1, y21.2.2.1, y21.2.2.2.1, y21.2.2.2.2.1, y21.2.2.2.2.2.1, y21.2.2.2.2.2.2.1, y21.2.2.2.2.2.2.2.1, r20.2, y21.2.2.2.2.2.2.2.2.2)).set n22 (y25.1, y25.2.1, y25.2.2.1, y25.2.2.2.1, y25.2.2.2.2.1, y25.2.2.2.2.2.1, y25.2.2.2.2.2.2.1, y25.2.2.2.2.2.2.2.1, y25.2.2.2.2.2.2.2.2.1, r24.2, y25.2.2.2.2.2.2.2.2.2.2)).set n26 (y27.1, y27.2.1, y27.2.2.1, y27.2.2.2.1, y27.2.2.2.2.1, y27.2.2.2.2.2.1, y27.2.2.2.2.2.2.1, y27.2.2.2.2.2.2.2.1, y27.2.2.2.2.2.2.2.2.1, y27.2.2.2.2.2.2.2.2.2.1, r24.1, y27.2.2.2.2.2.2.2.2.2.2.2)).set n28 (y29.1, y29.2.1, y29.2.2.1, y29.2.2.2.1, y29.2.2.2.2.1, y29.2.2.2.2.2.1, y29.2.2.2.2.2.2.1, y29.2.2.2.2.2.2.2.1, y29.2.2.2.2.2.2.2.2.1, y29.2.2.2.2.2.2.2.2.2.1, y29.2.2.2.2.2.2.2.2.2.2.1, IntKind.wrap .i64 (r24.1 + (1 : Int)), y29.2.2.2.2.2.2.2.2.2.2.2.2)).length x0.2.2 fun n30 =>
     Option.bind ((((((((((((x0.1.set n2 (x0.2.1, y3.2)).set n4 (y5.1, IntKind.wrap .i64 (x0.2.1 + (1 : Int)), y5.2.2)).set n6 (y7.1, y7.2.1, IntKind.wrap .i64 ((IntKind.wrap .i64 (x0.2.1 + (1 : Int))) + (1 : Int)), y7.2.2.2)).set n8 (y9.1, y9.2.1, y9.2.2.1, IntKind.wrap .i64 ((IntKind.wrap .i64 ((IntKind.wrap .i64 (x0.2.1 + (1 : Int))) + (1 : Int))) + (1 : Int)), y9.2.2.2.2)).set n10 (y11.1, y11.2.1, y11.2.2.1, y11.2.2.2.1, IntKind.wrap .i64 ((IntKind.wrap .i64 ((IntKind.wrap .i64 ((IntKind.wrap .i64 (x0.2.1 + (1 : Int))) + (1 : Int))) + (1 : Int))) + (1 : Int)), y11.2.2.2.2.2)).set n12 (y13.1, y13.2.1, y13.2.2.1, y13.2.2.2.1, y13.2.2.2.2.1, IntKind.wrap .i64 ((IntKind.wrap .i64 ((IntKind.wrap .i64 ((IntKind.wrap .i64 ((IntKind.wrap .i64 (x0.2.1 + (1 : Int))) + (1 : Int))) + (1 : Int))) + (1 : Int))) + (1 : Int)), y13.2.2.2.2.2.2)).set n14 (y15.1, y15.2.1, y15.2.2.1, y15.2.2.2.1, y15.2.2.2.2.1, y15.2.2.2.2.2.1, IntKind.wrap .i64 ((IntKind.wrap .i64 ((IntKind.wrap .i64 ((IntKind.wrap .i64 ((IntKind.wrap .i64 ((IntKind.wrap .i64 (x0.2.1 + (1 : Int))) + (1 : Int))) + (1 : Int))) + (1 : Int))) + (1 : Int))) + (1 : Int)), y15.2.2.2.2.2.2.2)).set n16 (y17.1, y17.2.1, y17.2.2.1, y17.2.2.2.1, y17.2.2.2.2.1, y17.2.2.2.2.2.1, y17.2.2.2.2.2.2.1, decide ((Int.tmod (IntKind.wrap .i64 ((IntKind.wrap .i64 ((IntKind.wrap .i64 ((IntKind.wrap .i64 ((IntKind.wrap .i64 ((IntKind.wrap .i64 ((IntKind.wrap .i64 (x0.2.1 + (1 : Int))) + (1 : Int))) + (1 : Int))) + (1 : Int))) + (1 : Int))) + (1 : Int))) + (1 : Int))) (3 : Int)) = (0 : Int)), y17.2.2.2.2.2.2.2.2)).set n18 (y21.1, y21.2.1, y21.2.2.1, y21.2.2.2.1, y21.2.2.2.2.1, y21.2.2.2.2.2.1, y21.2.2.2.2.2.2.1, y21.2.2.2.2.2.2.2.1, r20.2, y21.2.2.2.2.2.2.2.2.2)).set n22 (y25.1, y25.2.1, y25.2.2.1, y25.2.2.2.1, y25.2.2.2.2.1, y25.2.2.2.2.2.1, y25.2.2.2.2.2.2.1, y25.2.2.2.2.2.2.2.1, y25.2.2.2.2.2.2.2.2.1, r24.2, y25.2.2.2.2.2.2.2.2.2.2)).set n26 (y27.1, y27.2.1, y27.2.2.1, y27.2.2.2.1, y27.2.2.2.2.1, y27.2.2.2.2.2.1, y27.2.2.2.2.2.2.1, y27.2.2.2.2.2.2.2.1, y27.2.2.2.2.2.2.2.2.1, y27.2.2.2.2.2.2.2.2.2.1, r24.1, y27.2.2.2.2.2.2.2.2.2.2.2)).set n28 (y29.1, y29.2.1, y29.2.2.1, y29.2.2.2.1, y29.2.2.2.2.1, y29.2.2.2.2.2.1, y29.2.2.2.2.2.2.1, y29.2.2.2.2.2.2.2.1, y29.2.2.2.2.2.2.2.2.1, y29.2.2.2.2.2.2.2.2.2.1, y29.2.2.2.2.2.2.2.2.2.2.1, IntKind.wrap .i64 (r24.1 + (1 : Int)), y29.2.2.2.2.2.2.2.2.2.2.2.2))[n30]? fun y31 =>
     Option.bind (g_lmarkEdgeS (y31.2.2.2.2.2.2.2.2.2.2.2.2.1, IntKind.wrap .i64 ((IntKind.wrap .i64 (r24.1 + (1 : Int))) + (1 : Int)))) fun r32 =>
     Option.bind ((((((((((((x0.1.set n2 (x0.2.1, y3.2)).set n4 (y5.1, IntKind.wrap .i64 (x0.2.1 + (1 : Int)), y5.2.2)).set n6 (y7.1, y7.2.1, IntKind.wrap .i64 ((IntKind.wrap .i64 (x0.2.1 + (1 : Int))) + (1 : Int)), y7.2.2.2)).set n8 (y9.1, y9.2.1, y9.2.2.1, IntKind.wrap .i64 ((IntKind.wrap .i64 ((IntKind.wrap .i64 (x0.2.1 + (1 : Int))) + (1 : Int))) + (1 : Int)), y9.2.2.2.2)).set n10 (y11.1, y11.2.1, y11.2.2.1, y11.2.2.2.1, IntKind.wrap .i64 ((IntKind.wrap .i64 ((IntKind.wrap .i64 ((IntKind.wrap .i64 (x0.2.1 + (1 : Int))) + (1 : Int))) + (1 : Int))) + (1 : Int)), y11.2.2.2.2.2)).set n12 (y13.1, y13.2.1, y13.2.2.1, y13.2.2.2.1, y13.2.2.2.2.1, IntKind.wrap .i64 ((IntKind.wrap .i64 ((IntKind.wrap .i64 ((IntKind.wrap .i64 ((IntKind.wrap .i64 (x0.2.1 + (1 : Int))) + (1 : Int))) + (1 : Int))) + (1 : Int))) + (1 : Int)), y13.2.2.2.2.2.2)).set n14 (y15.1, y15.2.1, y15.2.2.1, y15.2.2.2.1, y15.2.2.2.2.1, y15.2.2.2.2.2.1, IntKind.wrap .i64 ((IntKind.wrap .i64 ((IntKind.wrap .i64 ((IntKind.wrap .i64 ((IntKind.wrap .i64 ((IntKind.wrap .i64 (x0.2.1 + (1 : Int))) + (1 : Int))) + (1 : Int))) + (1 : Int))) + (1 : Int))) + (1 : Int)), y15.2.2.2.2.2.2.2)).set n16 (y17.1, y17.2.1, y17.2.2.1, y17.2.2.2.1, y17.2.2.2.2.1, y17.2.2.2.2.2.1, y17.2.2.2.2.2.2.1, decide ((Int.tmod (IntKind.wrap .i64 ((IntKind.wrap .i64 ((IntKind.wrap .i64 ((IntKind.wrap .i64 ((IntKind.wrap .i64 ((IntKind.wrap .i64 ((IntKind.wrap .i64 (x0.2.1 + (1 : Int))) + (1 : Int))) + (1 : Int))) + (1 : Int))) + (1 : Int))) + (1 : Int))) + (1 : Int))) (3 : Int)) = (0 : Int)), y17.2.2.2.2.2.2.2.2)).set n18 (y21.1, y21.2.1, y21.2.2.1, y21.2.2.2.1, y21.2.2.2.2.1, y21.2.2.2.2.2.1, y21.2.2.2.2.2.2.1, y21.2.2.2.2.2.2.2.1, r20.2, y21.2.2.2.2.2.2.2.2.2)).set n22 (y25.1, y25.2.1, y25.2.2.1, y25.2.2.2.1, y25.2.2.2.2.1, y25.2.2.2.2.2.1, y25.2.2.2.2.2.2.1, y25.2.2.2.2.2.2.2.1, y25.2.2.2.2.2.2.2.2.1, r24.2, y25.2.2.2.2.2.2.2.2.2.2)).set n26 (y27.1, y27.2.1, y27.2.2.1, y27.2.2.2.1, y27.2.2.2.2.1, y27.2.2.2.2.2.1, y27.2.2.2.2.2.2.1, y27.2.2.2.2.2.2.2.1, y27.2.2.2.2.2.2.2.2.1, y27.2.2.2.2.2.2.2.2.2.1, r24.1, y27.2.2.2.2.2.2.2.2.2.2.2)).set n28 (y29.1, y29.2.1, y29.2.2.1, y29.2.2.2.1, y29.2.2.2.2.1, y29.2.2.2.2.2.1, y29.2.2.2.2.2.2.1, y29.2.2.2.2.2.2.2.1, y29.2.2.2.2.2.2.2.2.1, y29.2.2.2.2.2.2.2.2.2.1, y29.2.2.2.2.2.2.2.2.2.2.1, IntKind.wrap .i64 (r24.1 + (1 : Int)), y29.2.2.2.2.2.2.2.2.2.2.2.2))[n30]? fun y33 =>
     bnd (((((((((((((x0.1.set n2 (x0.2.1, y3.2)).set n4 (y5.1, IntKind.wrap .i64 (x0.2.1 + (1 : Int)), y5.2.2)).set n6 (y7.1, y7.2.1, IntKind.wrap .i64 ((IntKind.wrap .i64 (x0.2.1 + (1 : Int))) + (1 : Int)), y7.2.2.2)).set n8 (y9.1, y9.2.1, y9.2.2.1, IntKind.wrap .i64 ((IntKind.wrap .i64 ((IntKind.wrap .i64 (x0.2.1 + (1 : Int))) + (1 : Int))) + (1 : Int)), y9.2.2.2.2)).set n10 (y11.1, y11.2.1, y11.2.2.1, y11.2.2.2.1, IntKind.wrap .i64 ((IntKind.wrap .i64 ((IntKind.wrap .i64 ((IntKind.wrap .i64 (x0.2.1 + (1 : Int))) + (1 : Int))) + (1 : Int))) + (1 : Int)), y11.2.2.2.2.2)).set n12 (y13.1, y13.2.1, y13.2.2.1, y13.2.2.2.1, y13.2.2.2.2.1, IntKind.wrap .i64 ((IntKind.wrap .i64 ((IntKind.wrap .i64 ((IntKind.wrap .i64 ((IntKind.wrap .i64 (x0.2.1 + (1 : Int))) + (1 : Int))) + (1 : Int))) + (1 : Int))) + (1 : Int)), y13.2.2.2.2.2.2)).set n14 (y15.1, y15.2.1, y15.2.2.1, y15.2.2.2.1, y15.2.2.2.2.1, y15.2.2.2.2.2.1, IntKind.wrap .i64 ((IntKind.wrap .i64 ((IntKind.wrap .i64 ((IntKind.wrap .i64 ((IntKind.wrap .i64 ((IntKind.wrap .i64 (x0.2.1 + (1 : Int))) + (1 : Int))) + (1 : Int))) + (1 : Int))) + (1 : Int))) + (1 : Int)), y15.2.2.2.2.2.2.2)).set n16 (y17.1, y17.2.1, y17.2.2.1, y17.2.2.2.1, y17.2.2.2.2.1, y17.2.2.2.2.2.1, y17.2.2.2.2.2.2.1, decide ((Int.tmod (IntKind.wrap .i64 ((IntKind.wrap .i64 ((IntKind.wrap .i64 ((IntKind.wrap .i64 ((IntKind.wrap .i64 ((IntKind.wrap .i64 ((IntKind.wrap .i64 (x0.2.1 + (1 : Int))) + (1 : Int))) + (1 : Int))) + (1 : Int))) + (1 : Int))) + (1 : Int))) + (1 : Int))) (3 : Int)) = (0 : Int)), y17.2.2.2.2.2.2.2.2)).set n18 (y21.1, y21.2.1, y21.2.2.1, y21.2.2.2.1, y21.2.2.2.2.1, y21.2.2.2.2.2.1, y21.2.2.2.2.2.2.1, y21.2.2.2.2.2.2.2.1, r20.2, y21.2.2.2.2.2.2.2.2.2)).set n22 (y25.1, y25.2.1, y25.2.2.1, y25.2.2.2.1, y25.2.2.2.2.1, y25.2.2.2.2.2.1, y25.2.2.2.2.2.2.1, y25.2.2.2.2.2.2.2.1, y25.2.2.2.2.2.2.2.2.1, r24.2, y25.2.2.2.2.2.2.2.2.2.2)).set n26 (y27.1, y27.2.1, y27.2.2.1, y27.2.2.2.1, y27.2.2.2.2.1, y27.2.2.2.2.2.1, y27.2.2.2.2.2.2.1, y27.2.2.2.2.2.2.2.1, y27.2.2.2.2.2.2.2.2.1, y27.2.2.2.2.2.2.2.2.2.1, r24.1, y27.2.2.2.2.2.2.2.2.2.2.2)).set n28 (y29.1, y29.2.1, y29.2.2.1, y29.2.2.2.1, y29.2.2.2.2.1, y29.2.2.2.2.2.1, y29.2.2.2.2.2.2.1, y29.2.2.2.2.2.2.2.1, y29.2.2.2.2.2.2.2.2.1, y29.2.2.2.2.2.2.2.2.2.1, y29.2.2.2.2.2.2.2.2.2.2.1, IntKind.wrap .i64 (r24.1 + (1 : Int)), y29.2.2.2.2.2.2.2.2.2.2.2.2)).set n30 (y33.1, y33.2.1, y33.2.2.1, y33.2.2.2.1, y33.2.2.2.2.1, y33.2.2.2.2.2.1, y33.2.2.2.2.2.2.1, y33.2.2.2.2.2.2.2.1, y33.2.2.2.2.2.2.2.2.1, y33.2.2.2.2.2.2.2.2.2.1, y33.2.2.2.2.2.2.2.2.2.2.1, y33.2.2.2.2.2.2.2.2.2.2.2.1, r32.2, y33.2.2.2.2.2.2.2.2.2.2.2.2.2)).length x0.2.2 fun n34 =>
     Option.bind (((((((((((((x0.1.set n2 (x0.2.1, y3.2)).set n4 (y5.1, IntKind.wrap .i64 (x0.2.1 + (1 : Int)), y5.2.2)).set n6 (y7.1, y7.2.1, IntKind.wrap .i64 ((IntKind.wrap .i64 (x0.2.1 + (1 : Int))) + (1 : Int)), y7.2.2.2)).set n8 (y9.1, y9.2.1, y9.2.2.1, IntKind.wrap .i64 ((IntKind.wrap .i64 ((IntKind.wrap .i64 (x0.2.1 + (1 : Int))) + (1 : Int))) + (1 : Int)), y9.2.2.2.2)).set n10 (y11.1, y11.2.1, y11.2.2.1, y11.2.2.2.1, IntKind.wrap .i64 ((IntKind.wrap .i64 ((IntKind.wrap .i64 ((IntKind.wrap .i64 (x0.2.1 + (1 : Int))) + (1 : Int))) + (1 : Int))) + (1 : Int)), y11.2.2.2.2.2)).set n12 (y13.1, y13.2.1, y13.2.2.1, y13.2.2.2.1, y13.2.2.2.2.1, IntKind.wrap .i64 ((IntKind.wrap .i64 ((IntKind.wrap .i64 ((IntKind.wrap .i64 ((IntKind.wrap .i64 (x0.2.1 + (1 : Int))) + (1 : Int))) + (1 : Int))) + (1 : Int))) + (1 : Int)), y13.2.2.2.2.2.2)).set n14 (y15.1, y15.2.1, y15.2.2.1, y15.2.2.2.1, y15.2.2.2.2.1, y15.2.2.2.2.2.1, IntKind.wrap .i64 ((IntKind.wrap .i64 ((IntKind.wrap .i64 ((IntKind.wrap .i64 ((IntKind.wrap .i64 ((IntKind.wrap .i64 (x0.2.1 + (1 : Int))) + (1 : Int))) + (1 : Int))) + (1 : Int))) + (1 : Int))) + (1 : Int)), y15.2.2.2.2.2.2.2)).set n16 (y17.1, y17.2.1, y17.2.2.1, y17.2.2.2.1, y17.2.2.2.2.1, y17.2.2.2.2.2.1, y17.2.2.2.2.2.2.1, decide ((Int.tmod (IntKind.wrap .i64 ((IntKind.wrap .i64 ((IntKind.wrap .i64 ((IntKind.wrap .i64 ((IntKind.wrap .i64 ((IntKind.wrap .i64 ((IntKind.wrap .i64 (x0.2.1 + (1 : Int))) + (1 : Int))) + (1 : Int))) + (1 : Int))) + (1 : Int))) + (1 : Int))) + (1 : Int))) (3 : Int)) = (0 : Int)), y17.2.2.2.2.2.2.2.2)).set n18 (y21.1, y21.2.1, y21.2.2.1, y21.2.2.2.1, y21.2.2.2.2.1, y21.2.2.2.2.2.1, y21.2.2.2.2.2.2.1, y21.2.2.2.2.2.2.2.1, r20.2, y21.2.2.2.2.2.2.2.2.2)).set n22 (y25.1, y25.2.1, y25.2.2.1, y25.2.2.2.1, y25.2.2.2.2.1, y25.2.2.2.2.2.1, y25.2.2.2.2.2.2.1, y25.2.2.2.2.2.2.2.1, y25.2.2.2.2.2.2.2.2.1, r24.2, y25.2.2.2.2.2.2.2.2.2.2)).set n26 (y27.1, y27.2.1, y27.2.2.1, y27.2.2.2.1, y27.2.2.2.2.1, y27.2.2.2.2.2.1, y27.2.2.2.2.2.2.1, y27.2.2.2.2.2.2.2.1, y27.2.2.2.2.2.2.2.2.1, y27.2.2.2.2.2.2.2.2.2.1, r24.1, y27.2.2.2.2.2.2.2.2.2.2.2)).set n28 (y29.1, y29.2.1, y29.2.2.1, y29.2.2.2.1, y29.2.2.2.2.1, y29.2.2.2.2.2.1, y29.2.2.2.2.2.2.1, y29.2.2.2.2.2.2.2.1, y29.2.2.2.2.2.2.2.2.1, y29.2.2.2.2.2.2.2.2.2.1, y29.2.2.2.2.2.2.2.2.2.2.1, IntKind.wrap .i64 (r24.1 + (1 : Int)), y29.2.2.2.2.2.2.2.2.2.2.2.2)).set n30 (y33.1, y33.2.1, y33.2.2.1, y33.2.2.2.1, y33.2.2.2.2.1, y33.2.2.2.2.2.1, y33.2.2.2.2.2.2.1, y33.2.2.2.2.2.2.2.1, y33.2.2.2.2.2.2.2.2.1, y33.2.2.2.2.2.2.2.2.2.1, y33.2.2.2.2.2.2.2.2.2.2.1, y33.2.2.2.2.2.2.2.2.2.2.2.1, r32.2, y33.2.2.2.2.2.2.2.2.2.2.2.2.2))[n34]? fun y35 =>
     self1 ((((((((((((((x0.1.set n2 (x0.2.1, y3.2)).set n4 (y5.1, IntKind.wrap .i64 (x0.2.1 + (1 : Int)), y5.2.2)).set n6 (y7.1, y7.2.1, IntKind.wrap .i64 ((IntKind.wrap .i64 (x0.2.1 + (1 : Int))) + (1 : Int)), y7.2.2.2)).set n8 (y9.1, y9.2.1, y9.2.2.1, IntKind.wrap .i64 ((IntKind.wrap .i64 ((IntKind.wrap .i64 (x0.2.1 + (1 : Int))) + (1 : Int))) + (1 : Int)), y9.2.2.2.2)).set n10 (y11.1, y11.2.1, y11.2.2.1, y11.2.2.2.1, IntKind.wrap .i64 ((IntKind.wrap .i64 ((IntKind.wrap .i64 ((IntKind.wrap .i64 (x0.2.1 + (1 : Int))) + (1 : Int))) + (1 : Int))) + (1 : Int)), y11.2.2.2.2.2)).set n12 (y13.1, y13.2.1, y13.2.2.1, y13.2.2.2.1, y13.2.2.2.2.1, IntKind.wrap .i64 ((IntKind.wrap .i64 ((IntKind.wrap .i64 ((IntKind.wrap .i64 ((IntKind.wrap .i64 (x0.2.1 + (1 : Int))) + (1 : Int))) + (1 : Int))) + (1 : Int))) + (1 : Int)), y13.2.2.2.2.2.2)).set n14 (y15.1, y15.2.1, y15.2.2.1, y15.2.2.2.1, y15.2.2.2.2.1, y15.2.2.2.2.2.1, IntKind.wrap .i64 ((IntKind.wrap .i64 ((IntKind.wrap .i64 ((IntKind.wrap .i64 ((IntKind.wrap .i64 ((IntKind.wrap .i64 (x0.2.1 + (1 : Int))) + (1 : Int))) + (1 : Int))) + (1 : Int))) + (1 : Int))) + (1 : Int)), y15.2.2.2.2.2.2.2)).set n16 (y17.1, y17.2.1, y17.2.2.1, y17.2.2.2.1, y17.2.2.2.2.1, y17.2.2.2.2.2.1, y17.2.2.2.2.2.2.1, decide ((Int.tmod (IntKind.wrap .i64 ((IntKind.wrap .i64 ((IntKind.wrap .i64 ((IntKind.wrap .i64 ((IntKind.wrap .i64 ((IntKind.wrap .i64 ((IntKind.wrap .i64 (x0.2.1 + (1 : Int))) + (1 : Int))) + (1 : Int))) + (1 : Int))) + (1 : Int))) + (1 : Int))) + (1 : Int))) (3 : Int)) = (0 : Int)), y17.2.2.2.2.2.2.2.2)).set n18 (y21.1, y21.2.1, y21.2.2.1, y21.2.2.2.1, y21.2.2.2.2.1, y21.2.2.2.2.2.1, y21.2.2.2.2.2.2.1, y21.2.2.2.2.2.2.2.1, r20.2, y21.2.2.2.2.2.2.2.2.2)).set n22 (y25.1, y25.2.1, y25.2.2.1, y25.2.2.2.1, y25.2.2.2.2.1, y25.2.2.2.2.2.1, y25.2.2.2.2.2.2.1, y25.2.2.2.2.2.2.2.1, y25.2.2.2.2.2.2.2.2.1, r24.2, y25.2.2.2.2.2.2.2.2.2.2)).set n26 (y27.1, y27.2.1, y27.2.2.1, y27.2.2.2.1, y27.2.2.2.2.1, y27.2.2.2.2.2.1, y27.2.2.2.2.2.2.1, y27.2.2.2.2.2.2.2.1, y27.2.2.2.2.2.2.2.2.1, y27.2.2.2.2.2.2.2.2.2.1, r24.1, y27.2.2.2.2.2.2.2.2.2.2.2)).set n28 (y29.1, y29.2.1, y29.2.2.1, y29.2.2.2.1, y29.2.2.2.2.1, y29.2.2.2.2.2.1, y29.2.2.2.2.2.2.1, y29.2.2.2.2.2.2.2.1, y29.2.2.2.2.2.2.2.2.1, y29.2.2.2.2.2.2.2.2.2.1, y29.2.2.2.2.2.2.2.2.2.2.1, IntKind.wrap .i64 (r24.1 + (1 : Int)), y29.2.2.2.2.2.2.2.2.2.2.2.2)).set n30 (y33.1, y33.2.1, y33.2.2.1, y33.2.2.2.1, y33.2.2.2.2.1, y33.2.2.2.2.2.1, y33.2.2.2.2.2.2.1, y33.2.2.2.2.2.2.2.1, y33.2.2.2.2.2.2.2.2.1, y33.2.2.2.2.2.2.2.2.2.1, y33.2.2.2.2.2.2.2.2.2.2.1, y33.2.2.2.2.2.2.2.2.2.2.2.1, r32.2, y33.2.2.2.2.2.2.2.2.2.2.2.2.2)).set n34 (y35.1, y35.2.1, y35.2.2.1, y35.2.2.2.1, y35.2.2.2.2.1, y35.2.2.2.2.2.1, y35.2.2.2.2.2.2.1, y35.2.2.2.2.2.2.2.1, y35.2.2.2.2.2.2.2.2.1, y35.2.2.2.2.2.2.2.2.2.1, y35.2.2.2.2.2.2.2.2.2.2.1, y35.2.2.2.2.2.2.2.2.2.2.2.1, y35.2.2.2.2.2.2.2.2.2.2.2.2.1, r32.1), IntKind.wrap .i64 (r32.1 + (1 : Int)), IntKind.wrap .i64 (x0.2.2 + (1 : Int)))
    else some (x0.1, x0.2.1)) (by
    intro self out i k y hi hl hy hya hk0 hk1
    have hi' : i < out.length := by omega
    have hz' := z_RecS_mem (List.mem_of_getElem? hya)
    obtain ⟨t8, c8, m8, d8, l8, u8⟩ := mh_EdgeS y.2.2.2.2.2.2.2.2.1 (k + 1 + 1 + 1 + 1 + 1 + 1 + 1 + 1) (by omega) (by omega) (by omega)
    obtain ⟨t9, c9, m9, d9, l9, u9⟩ := mh_IntS y.2.2.2.2.2.2.2.2.2.1 (c8) (by omega) (by omega) (by omega)
    obtain ⟨t12, c12, m12, d12, l12, u12⟩ := mh_EdgeS y.2.2.2.2.2.2.2.2.2.2.2.2.1 (c9 + 1 + 1) (by omega) (by omega) (by omega)
    have hb : k + 1 + 1 + 1 + 1 + 1 + 1 + 1 + 1 ≤ c8 ∧ c8 ≤ c9 ∧ c9 + 1 + 1 ≤ c12 ∧ c12 ≤ 4611686018427387000 := ⟨by omega, by omega, by omega, by omega⟩
    have hlt : (i : Int) < (a.length : Int) := by omega
    have hc : k ≤ c12 + 1 ∧ c12 + 1 ≤ k + 83886091 := by omega
    have h1 : IntKind.wrap .i64 ((i : Int) + 1) = ((i + 1 : Nat) : Int) := wr1 (by omega)
    have hk' : 0 ≤ k := by omega
    obtain ⟨w0, w1, w2, w3, w4, w5, w6, w7, w8, w9, w10, n8, n9, n12⟩ := hw_RecS k c8 c9 c12 hk' hb
    refine ⟨(k, k + 1, k + 1 + 1, k + 1 + 1 + 1, k + 1 + 1 + 1 + 1, k + 1 + 1 + 1 + 1 + 1, k + 1 + 1 + 1 + 1 + 1 + 1, decide (Int.tmod (k + 1 + 1 + 1 + 1 + 1 + 1 + 1) 3 = 0), t8, t9, c9, c9 + 1, t12, c12), c12 + 1, ⟨c8, c9, c12, ⟨rfl, rfl, rfl, rfl, rfl, rfl, rfl, rfl, rfl, rfl, rfl⟩, ⟨d8, d9, d12⟩, hb, rfl, hk'⟩, hc.1, hc.2, ?_⟩
    clear hz' hk0 hk1 hb hc hk' hya hk hz
    simp only [hl, hlt, decide_true, cond_true, List.length_set, bnd_nat hi, hy, List.getElem?_set_self hi', Option.bind_some, List.set_set, w0, w1, w2, w3, w4, w5, w6, w7, w8, w9, w10, m8, m9, m12, show decide ((3 : Int) = 0) = false from rfl, cond_false, and_true, h1]) (by
    intro self out k hl
    simp [hl])
  obtain ⟨t, c, e1, e2, e3, e4, e5⟩ := L
  refine ⟨t, c, ?_, ?_, e4, by omega⟩
  · show f_lmarkRecS BIG _ = _
    rw [e_lmarkRecS, e1]
    rfl
  · exact hx_RecS t k c (by omega) e2
theorem neg_f {c : Int} (h : 1 ≤ c) : decide (c < 0) = false := decide_eq_false (by omega)
theorem foldG {α S X B : Type} (a : List α) (hl : a.length < 18446744073709551616) {F : (X → Option B) → X → Option B} (mk : S → Int → X) (I : Nat → S → Prop) (st : S → α → S) (R : S → B) {s0 : S} (h0 : I 0 s0)
    (hI : ∀ i s y, a[i]? = some y → I i s → I (i + 1) (st s y)) (hF : ∀ self s (i : Nat) y, a[i]? = some y → I i s → F self (mk s (i : Int)) = self (mk (st s y) ((i + 1 : Nat) : Int)))
    (hE : ∀ self s, I a.length s → F self (mk s (a.length : Int)) = some (R s)) : loopT BIG F (mk s0 0) = some (R (a.foldl st s0)) := by
  have key : ∀ (k n i : Nat) (s : S), a.length - i ≤ k → k < n → i ≤ a.length → I i s → it F n (mk s (i : Int)) = some (R ((a.drop i).foldl st s)) := by
    intro k
    induction k with
    | zero =>
      intro n i s hk hn hi hs
      obtain ⟨m, rfl⟩ : ∃ m, n = m + 1 := ⟨n - 1, by omega⟩
      have : i = a.length := by omega
      subst this
      show F (it F m) _ = _
      rw [hE _ _ hs]; simp
    | succ k ih =>
      intro n i s hk hn hi hs
      obtain ⟨m, rfl⟩ : ∃ m, n = m + 1 := ⟨n - 1, by omega⟩
      show F (it F m) _ = _
      by_cases hi' : i < a.length
      · have hy := List.getElem?_eq_getElem hi'
        rw [hF _ _ _ _ hy hs, ih m (i + 1) _ (by omega) (by omega) hi' (hI _ _ _ hy hs), List.drop_eq_getElem_cons hi', List.foldl_cons]
      · have : i = a.length := by omega
        subst this
        rw [hE _ _ hs]; simp
  have := key a.length BIG 0 s0 (by omega) (by simpa [BIG] using hl) (by omega) h0
  show it F BIG (mk s0 0) = _
  simpa using this
theorem exitG {α S T X B : Type} (a : List α) (hl : a.length < 18446744073709551616) {F : (X → Option (T ⊕ B)) → X → Option (T ⊕ B)} (mk : S → Int → X) (I : Nat → S → Prop) (st : S → α → Option S) (R : S → T) (b : B) {s0 : S} (h0 : I 0 s0)
    (hI : ∀ i s s' y, a[i]? = some y → I i s → st s y = some s' → I (i + 1) s') (hF : ∀ self s (i : Nat) y, a[i]? = some y → I i s → F self (mk s (i : Int)) = match st s y with | some s' => self (mk s' ((i + 1 : Nat) : Int)) | none => some (.inr b))
    (hE : ∀ self s, I a.length s → F self (mk s (a.length : Int)) = some (.inl (R s))) : loopT BIG F (mk s0 0) = some (match fM st s0 a with | some s => .inl (R s) | none => .inr b) := by
  have key : ∀ (k n i : Nat) (s : S), a.length - i ≤ k → k < n → i ≤ a.length → I i s → it F n (mk s (i : Int)) = some (match fM st s (a.drop i) with | some s => .inl (R s) | none => .inr b) := by
    intro k
    induction k with
    | zero =>
      intro n i s hk hn hi hs
      obtain ⟨m, rfl⟩ : ∃ m, n = m + 1 := ⟨n - 1, by omega⟩
      have : i = a.length := by omega
      subst this
      show F (it F m) _ = _
      rw [hE _ _ hs, List.drop_length]; rfl
    | succ k ih =>
      intro n i s hk hn hi hs
      obtain ⟨m, rfl⟩ : ∃ m, n = m + 1 := ⟨n - 1, by omega⟩
      show F (it F m) _ = _
      by_cases hi' : i < a.length
      · have hy := List.getElem?_eq_getElem hi'
        rw [hF _ _ _ _ hy hs, List.drop_eq_getElem_cons hi']
        cases hst : st s a[i] with
        | none => simp only [fM, hst, Option.bind_none]
        | some s' =>
          simp only
          rw [ih m (i + 1) _ (by omega) (by omega) hi' (hI _ _ _ _ hy hs hst)]
          simp only [fM, hst, Option.bind_some]
      · have : i = a.length := by omega
        subst this
        rw [hE _ _ hs, List.drop_length]; rfl
  have := key a.length BIG 0 s0 (by omega) (by simpa [BIG] using hl) (by omega) h0
  show it F BIG (mk s0 0) = _
  simpa using this
def BA (l : List UInt8) : ByteArray := ⟨l.toArray⟩
theorem BA_data (b : ByteArray) : BA b.data.toList = b := by cases b; rfl
theorem BA_size (l : List UInt8) : (BA l).size = l.length := by
  have h : l.toArray.size = l.length := by simp
  exact h
theorem BA_app (a b : List UInt8) : BA a ++ BA b = BA (a ++ b) := by
  apply ByteArray.ext
  simp [BA, ByteArray.data_append]
theorem BA_get (l : List UInt8) (i : Nat) : (BA l)[i]? = l[i]? := by
  by_cases h : i < l.length
  · rw [getElem?_pos (BA l) i h, List.getElem?_eq_getElem h]
    rfl
  · rw [getElem?_neg (BA l) i h, List.getElem?_eq_none (by omega)]
theorem BA_ext (l : List UInt8) (a b : Nat) : (BA l).extract a b = BA ((l.drop a).take (b - a)) := by
  apply ByteArray.ext
  simp [BA, ByteArray.data_extract]
theorem BA_loop (l : List UInt8) : ∀ (k i : Nat) (r : List UInt8), l.length - i ≤ k → ByteArray.toList.loop (BA l) i r = r.reverse ++ l.drop i := by
  intro k
  induction k with
  | zero =>
    intro i r h
    unfold ByteArray.toList.loop
    rw [if_neg (by rw [BA_size]; omega), List.drop_eq_nil_iff.2 (by omega), List.append_nil]
  | succ k ih =>
    intro i r h
    unfold ByteArray.toList.loop
    by_cases hi : i < l.length
    · rw [if_pos (by rw [BA_size]; exact hi), ih (i + 1) _ (by omega), List.drop_eq_getElem_cons hi]
      have : (BA l).get! i = l[i] := by
        show (BA l).data[i]! = _
        simp [BA, hi]
      rw [this]; simp
    · rw [if_neg (by rw [BA_size]; exact hi), List.drop_eq_nil_iff.2 (by omega), List.append_nil]
theorem BA_toList (l : List UInt8) : (BA l).toList = l := by
  unfold ByteArray.toList
  rw [BA_loop l l.length 0 [] (by omega)]; simp
theorem bytesStr_BA (ns : List Int) : bytesStr ns = BA (ns.map fun n => UInt8.ofNat n.toNat) := by
  have : ∀ (ns : List Int) (l : List UInt8), ns.foldl (fun r n => r.push (UInt8.ofNat n.toNat)) (BA l) = BA (l ++ ns.map fun n => UInt8.ofNat n.toNat) := by
    intro ns
    induction ns with
    | nil => intro l; simp
    | cons n ns ih =>
      intro l
      rw [List.foldl_cons]
      have : (BA l).push (UInt8.ofNat n.toNat) = BA (l ++ [UInt8.ofNat n.toNat]) := by
        apply ByteArray.ext
        simp [BA, ByteArray.push]
      rw [this, ih]; simp
  have := this ns []
  rw [List.nil_append] at this
  exact this
def by8 (n : Int) : UInt8 := UInt8.ofNat (n % 256).toNat
theorem wrap_u8 (n : Int) : IntKind.wrap .u8 n = n % 256 := by
  simp [IntKind.wrap, IntKind.signed, IntKind.bits]
theorem bytes_by (ns : List Int) : bytesStr (ns.map (IntKind.wrap .u8)) = BA (ns.map by8) := by
  rw [bytesStr_BA, List.map_map]
  rfl
theorem bytes_nn {ns : List Int} (h : ∀ z, z ∈ ns → 0 ≤ z) : bytesStr ns = BA (ns.map by8) := by
  rw [bytesStr_BA]
  congr 1
  apply List.map_congr_left
  intro n hn
  have := h n hn
  unfold by8
  apply UInt8.toNat_inj.1
  simp only [UInt8.toNat_ofNat']
  omega
theorem by8_nat (n : Nat) : by8 (n : Int) = UInt8.ofNat n := by
  unfold by8
  have : ((n : Int) % 256).toNat = n % 256 := by omega
  rw [this]
  apply UInt8.toNat_inj.1
  simp [UInt8.toNat_ofNat]
theorem by8_toNat {n : Nat} (h : n < 256) : (by8 (n : Int)).toNat = n := by
  rw [by8_nat]; simp [UInt8.toNat_ofNat]; omega
theorem by8_of (b : UInt8) : by8 (b.toNat : Int) = b := by
  rw [by8_nat]; simp
def vF : Nat → Nat → List UInt8
  | 0, v => [by8 (v : Int)]
  | k + 1, v => if v ≤ 127 then [by8 (v : Int)] else by8 ((v % 128 + 128 : Nat) : Int) :: vF k (v / 128)
def vB (v : Nat) : List UInt8 := vF 9 v
theorem vF_more : ∀ (k v : Nat), v < 128 ^ (k + 1) → vF (k + 1) v = vF k v
  | 0, v, h => by
    have : v ≤ 127 := by omega
    simp [vF, this]
  | k + 1, v, h => by
    unfold vF
    split
    · rfl
    · congr 1
      apply vF_more k
      rw [Nat.div_lt_iff_lt_mul (by omega)]
      rw [Nat.pow_succ] at h
      exact h
theorem vF_len : ∀ (k v : Nat), (vF k v).length ≤ k + 1
  | 0, v => by simp [vF]
  | k + 1, v => by
    unfold vF
    split
    · simp
    · have := vF_len k (v / 128)
      simp; omega
theorem vB_small {v : Nat} (h : v < 34359738368) : vB v = vF 4 v := by
  unfold vB
  rw [vF_more 8 v (by omega), vF_more 7 v (by omega), vF_more 6 v (by omega), vF_more 5 v (by omega), vF_more 4 v (by omega)]
theorem vB_len {v : Nat} (h : v < 34359738368) : (vB v).length ≤ 5 := by rw [vB_small h]; exact vF_len 4 v
theorem vB_lo {v : Nat} (h : v ≤ 127) : vB v = [by8 (v : Int)] := by simp [vB, vF, h]
theorem vB_hi {v : Nat} (h : 127 < v) (h' : v < 34359738368) : vB v = by8 ((v % 128 + 128 : Nat) : Int) :: vB (v / 128) := by
  rw [vB_small (v := v / 128) (by omega), vB_small h']
  show (if v ≤ 127 then _ else _ :: vF 3 (v / 128)) = _
  rw [if_neg (by omega), ← vF_more 3 (v / 128) (by omega)]
theorem wrapi {n : Nat} (h : n ≤ 9223372036854775807) : IntKind.wrap .i64 (n : Int) = n := wr (by omega) (by omega)
theorem vLoop (v : Nat) (hv : v < 34359738368) {F : (List Int × Int → Option (List Int × Int)) → List Int × Int → Option (List Int × Int)}
    (hF : ∀ self (out : List Int) (x : Nat), x < 34359738368 → out.length ≤ 100 → F self (out, (x : Int)) = if 127 < x then self (out ++ [((x % 128 + 128 : Nat) : Int)], ((x / 128 : Nat) : Int)) else some (out, (x : Int))) :
    ∃ (out : List Int) (x : Nat), loopT BIG F ([], (v : Int)) = some (out, (x : Int)) ∧ out.length ≤ 10 ∧ x ≤ 127 ∧ (out ++ [(x : Int)]).map by8 = vB v ∧ ∀ z, z ∈ out → 0 ≤ z := by
  have key : ∀ (k n : Nat) (out : List Int) (x : Nat), x < 128 ^ (k + 1) → k ≤ 4 → k < n → out.length ≤ 10 - k → (∀ z, z ∈ out → 0 ≤ z) → ∃ (out' : List Int) (x' : Nat), it F n (out, (x : Int)) = some (out', (x' : Int)) ∧ out'.length ≤ 10 ∧ x' ≤ 127 ∧ (out' ++ [(x' : Int)]).map by8 = out.map by8 ++ vB x ∧ ∀ z, z ∈ out' → 0 ≤ z := by
    intro k
    induction k with
    | zero =>
      intro n out x hx hk4 hk ho hz
      obtain ⟨m, rfl⟩ : ∃ m, n = m + 1 := ⟨n - 1, by omega⟩
      refine ⟨out, x, ?_, by omega, by omega, ?_, hz⟩
      · show F (it F m) _ = _
        rw [hF _ _ _ (by omega) (by omega), if_neg (by omega)]
      · rw [vB_lo (by omega)]; simp
    | succ k ih =>
      intro n out x hx hk4 hk ho hz
      obtain ⟨m, rfl⟩ : ∃ m, n = m + 1 := ⟨n - 1, by omega⟩
      have hx5 : x < 34359738368 := Nat.lt_of_lt_of_le hx (Nat.pow_le_pow_right (by omega) (show k + 1 + 1 ≤ 5 by omega))
      by_cases h : 127 < x
      · have hx' : x / 128 < 128 ^ (k + 1) := by
          rw [Nat.div_lt_iff_lt_mul (by omega)]
          rw [Nat.pow_succ] at hx; exact hx
        obtain ⟨out', x', g1, g2, g3, g4, g5⟩ := ih m (out ++ [((x % 128 + 128 : Nat) : Int)]) (x / 128) hx' (by omega) (by omega) (by simp; omega) (fun z hm => by
          rcases List.mem_append.1 hm with hm | hm
          · exact hz z hm
          · rw [List.mem_singleton.1 hm]; omega)
        refine ⟨out', x', ?_, g2, g3, ?_, g5⟩
        · show F (it F m) _ = _
          rw [hF _ _ _ hx5 (by omega), if_pos h]
          exact g1
        · rw [g4, vB_hi h hx5]; simp
      · refine ⟨out, x, ?_, by omega, by omega, ?_, hz⟩
        · show F (it F m) _ = _
          rw [hF _ _ _ hx5 (by omega), if_neg h]
        · rw [vB_lo (by omega)]; simp
  obtain ⟨out, x, h1, h2, h3, h4, h5⟩ := key 4 BIG [] v hv (by omega) (by decide) (by simp) (fun z hz => by cases hz)
  exact ⟨out, x, h1, h2, h3, by simpa using h4, h5⟩
theorem vStep (x : Nat) (hx : x < 34359738368) : IntKind.wrap .u8 (IntKind.wrap .i64 (Int.tmod (x : Int) 128 + 128)) = ((x % 128 + 128 : Nat) : Int) ∧ IntKind.wrap .i64 (Int.tdiv (x : Int) 128) = ((x / 128 : Nat) : Int) := by
  rw [Int.tmod_eq_emod_of_nonneg (by omega), Int.tdiv_eq_ediv_of_nonneg (by omega)]
  constructor
  · rw [wr (by omega) (by omega), wrap_u8]; omega
  · rw [wr (by omega) (by omega)]; omega
theorem vStepF (self1 : List Int × Int → Option (List Int × Int)) (out : List Int) (x : Nat) (hx : x < 34359738368) (ho : out.length ≤ 100) :
    (bif decide ((127 : Int) < (x : Int)) then
     bif decide ((128 : Int) = 0) then
      none
     else bif decide (out.length + ([IntKind.wrap .u8 (IntKind.wrap .i64 ((Int.tmod (x : Int) (128 : Int)) + (128 : Int)))]).length ≤ 4294967296) then
      bif decide ((128 : Int) = 0) then
       none
      else self1 (out ++ ([IntKind.wrap .u8 (IntKind.wrap .i64 ((Int.tmod (x : Int) (128 : Int)) + (128 : Int)))]), IntKind.wrap .i64 (Int.tdiv (x : Int) (128 : Int)))
     else none
    else some (out, (x : Int))) = if 127 < x then self1 (out ++ [((x % 128 + 128 : Nat) : Int)], ((x / 128 : Nat) : Int)) else some (out, (x : Int)) := by
  obtain ⟨s1, s2⟩ := vStep x hx
  simp only [s1, s2]
  rw [decide_eq_true (show out.length + [((x % 128 + 128 : Nat) : Int)].length ≤ 4294967296 by simp; omega)]
  by_cases h : 127 < x
  · rw [decide_eq_true (by omega), if_pos h]; rfl
  · rw [decide_eq_false (by omega), if_neg h]; rfl
theorem vEnd {v x : Nat} {out : List Int} (h3 : x ≤ 127) (h4 : (out ++ [(x : Int)]).map by8 = vB v) (h5 : ∀ z, z ∈ out → 0 ≤ z) : bytesStr (out ++ [IntKind.wrap .u8 (x : Int)]) = BA (vB v) := by
  have : out ++ [IntKind.wrap .u8 (x : Int)] = out ++ [(x : Int)] := by rw [wrap_u8, Int.emod_eq_of_lt (by omega) (by omega)]
  rw [this, bytes_nn (fun z hm => by
    rcases List.mem_append.1 hm with hm | hm
    · exact h5 z hm
    · rw [List.mem_singleton.1 hm]; omega), h4]
theorem w_sl01Var (v : Nat) (hv : v < 34359738368) : g_sl01Var (v : Int) = some (BA (vB v), ()) := by
  show f_sl01Var BIG _ = _
  rw [e_sl01Var]
  obtain ⟨out, x, h1, h2, h3, h4, h5⟩ := vLoop v hv (F := fun self1 x0 =>
    bif decide ((127 : Int) < x0.2) then
     bif decide ((128 : Int) = 0) then
      none
     else bif decide (x0.1.length + ([IntKind.wrap .u8 (IntKind.wrap .i64 ((Int.tmod x0.2 (128 : Int)) + (128 : Int)))]).length ≤ 4294967296) then
      bif decide ((128 : Int) = 0) then
       none
      else self1 (x0.1 ++ ([IntKind.wrap .u8 (IntKind.wrap .i64 ((Int.tmod x0.2 (128 : Int)) + (128 : Int)))]), IntKind.wrap .i64 (Int.tdiv x0.2 (128 : Int)))
     else none
    else some (x0.1, x0.2)) (fun self out x hx ho => vStepF self out x hx ho)
  rw [h1]
  simp only [Option.bind_some]
  rw [decide_eq_true (by simp; omega), cond_true, vEnd h3 h4 h5]
theorem w_iVarText (v : Int) : g_iVarText v = some (if inB v 0 1000000000 then (BA (vB v.toNat), true) else (BA [], false), ()) := by
  show f_iVarText BIG _ = _
  rw [e_iVarText, h_iin', Option.bind_some]
  cases h : inB v 0 1000000000 with
  | false => rfl
  | true =>
    rw [inB_t] at h
    obtain ⟨v, rfl⟩ : ∃ w : Nat, v = w := ⟨v.toNat, by omega⟩
    obtain ⟨out, x, h1, h2, h3, h4, h5⟩ := vLoop v (by omega) (F := fun self1 x0 =>
      bif decide ((127 : Int) < x0.2) then
       bif decide ((128 : Int) = 0) then
        none
       else bif decide (x0.1.length + ([IntKind.wrap .u8 (IntKind.wrap .i64 ((Int.tmod x0.2 (128 : Int)) + (128 : Int)))]).length ≤ 4294967296) then
        bif decide ((128 : Int) = 0) then
         none
        else self1 (x0.1 ++ ([IntKind.wrap .u8 (IntKind.wrap .i64 ((Int.tmod x0.2 (128 : Int)) + (128 : Int)))]), IntKind.wrap .i64 (Int.tdiv x0.2 (128 : Int)))
       else none
      else some (x0.1, x0.2)) (fun self out x hx ho => vStepF self out x hx ho)
    simp only [Bool.not_true, cond_false, if_true, Int.toNat_natCast]
    rw [h1]
    simp only [Option.bind_some]
    rw [decide_eq_true (by simp; omega), cond_true, vEnd h3 h4 h5]
theorem by_1 (x : Int) : bytesStr [IntKind.wrap .u8 x] = BA [by8 x] := bytes_by [x]
theorem by_2 (x y : Int) : bytesStr [IntKind.wrap .u8 x, IntKind.wrap .u8 y] = BA [by8 x, by8 y] := bytes_by [x, y]
theorem w_sl09Byte (v : Int) : g_sl09Byte v = some (BA [by8 v], ()) := by
  show f_sl09Byte BIG _ = _
  rw [e_sl09Byte, by_1]
def flT (b : Bool) : List UInt8 := [if b then 1 else 0]
theorem w_sl09Flag (b : Bool) : g_sl09Flag b = some (BA (flT b), ()) := by
  show f_sl09Flag BIG _ = _
  rw [e_sl09Flag]; cases b <;> rfl
def e2 (e : Ed) : List UInt8 := [by8 e.1, by8 e.2]
def eT (es : List Ed) : List UInt8 := vB es.length ++ es.flatMap e2
theorem flat2_len : ∀ es : List Ed, (es.flatMap e2).length = 2 * es.length
  | [] => rfl
  | e :: es => by rw [List.flatMap_cons, List.length_append, flat2_len es]; simp [e2]; omega
theorem eT_len {es : List Ed} (h : es.length ≤ 66) : (eT es).length ≤ 200 := by
  have := vB_len (v := es.length) (by omega)
  rw [eT, List.length_append, flat2_len]; omega
theorem fold_flat {α : Type} (f : α → List UInt8) : ∀ (l : List α) (s : List UInt8), l.foldl (fun s e => s ++ f e) s = s ++ l.flatMap f
  | [], s => by simp
  | e :: l, s => by rw [List.foldl_cons, fold_flat f l, List.flatMap_cons, List.append_assoc]
theorem w_iedgesText (es : List Ed) (he : es.length ≤ 66) : g_iedgesText es = some (BA (eT es), ()) := by
  have hm : maxLen = 9223372036854775807 := by decide
  show f_iedgesText BIG _ = _
  have hv : inB (es.length : Int) 0 1000000000 = true := inB_t.2 (by omega)
  have h5 := vB_len (v := es.length) (by omega)
  rw [e_iedgesText, w_iVarText, hv, if_pos rfl, Option.bind_some, Int.toNat_natCast]
  simp only
  rw [foldG es (by omega) (fun (s : List UInt8) i => (BA s, i)) (fun i s => s.length ≤ 5 + 2 * i) (fun s e => s ++ e2 e) BA (s0 := vB es.length) (by simpa using h5) (fun i s y _ h => by simp [e2]; omega), fold_flat]
  · rfl
  · intro self s i y hy hs
    have hi := (List.getElem?_eq_some_iff.1 hy).1
    simp only [show ((i : Int) < (es.length : Int)) from by omega, decide_true, cond_true]
    rw [bnd_nat hi, hy, Option.bind_some, wr1 (by omega), by_2, BA_app, BA_size, BA_size, decide_eq_true (by simp; omega)]
    rfl
  · intro self s _
    simp
theorem w_sl09Edges (es : List Ed) (he : es.length ≤ 66) : g_sl09Edges es = some (BA (eT es), ()) := by
  have hm : maxLen = 9223372036854775807 := by decide
  show f_sl09Edges BIG _ = _
  have h5 := vB_len (v := es.length) (by omega)
  rw [e_sl09Edges, w_sl01Var _ (by omega), Option.bind_some]
  simp only
  rw [foldG es (by omega) (fun (s : List UInt8) i => (BA s, i)) (fun i s => s.length ≤ 5 + 2 * i) (fun s e => s ++ e2 e) BA (s0 := vB es.length) (by simpa using h5) (fun i s y _ h => by simp [e2]; omega), fold_flat]
  · rfl
  · intro self s i y hy hs
    have hi := (List.getElem?_eq_some_iff.1 hy).1
    simp only [show ((i : Int) < (es.length : Int)) from by omega, decide_true, cond_true]
    rw [bnd_nat hi, hy, Option.bind_some, wr1 (by omega), w_sl09Byte, Option.bind_some, BA_app, BA_size, BA_size, decide_eq_true (by simp; omega), cond_true, bnd_nat hi, hy, Option.bind_some, w_sl09Byte, Option.bind_some, BA_app, BA_size, BA_size, decide_eq_true (by simp; omega), cond_true, List.append_assoc]
    rfl
  · intro self s _
    simp
def oT (o : Or') : List UInt8 := ((vB o.1.toNat ++ [by8 o.2.1]) ++ vB o.2.2.2.toNat) ++ eT o.2.2.1
theorem ordB_in {n : Int} {o : Or'} (h : ordB n o = true) : 1 ≤ n ∧ n ≤ 12 ∧ 1 ≤ o.1 ∧ o.1 ≤ 100000 ∧ 1 ≤ o.2.1 ∧ o.2.1 ≤ 4 ∧ 0 ≤ o.2.2.2 ∧ o.2.2.2 ≤ 12 ∧ eOk n o.2.2.1 = true := by
  unfold ordB at h
  simp only [Bool.and_eq_true] at h
  obtain ⟨hn, h1, h2, h3, h4⟩ := h
  have hn := inB_t.1 hn
  have h1 := inB_t.1 h1
  have h2 := inB_t.1 h2
  have hv : 0 ≤ o.2.2.2 ∧ o.2.2.2 ≤ 12 := by
    split at h4
    · simp only [Bool.and_eq_true] at h4
      have := inB_t.1 h4.2; omega
    · split at h4 <;> simp only [Bool.and_eq_true, decide_eq_true_eq] at h4 <;> omega
  exact ⟨hn.1, hn.2, h1.1, h1.2, h2.1, h2.2, hv.1, hv.2, h3⟩
theorem oT_len {n : Int} {o : Or'} (h : ordB n o = true) : (oT o).length ≤ 300 := by
  obtain ⟨a1, a2, a3, a4, a5, a6, a7, a8, a9⟩ := ordB_in h
  have h1 := vB_len (v := o.1.toNat) (by omega)
  have h2 := vB_len (v := o.2.2.2.toNat) (by omega)
  have h3 := eT_len (eOk_len a9)
  simp only [oT, List.length_append, List.length_cons, List.length_nil]; omega
theorem w_iOrderText (n : Int) (o : Or') (hl : o.2.2.1.length ≤ 1048576) : g_iOrderText (n, o) = some (if ordB n o then (BA (oT o), true) else (BA [], false), ()) := by
  show f_iOrderText BIG _ = _
  rw [e_iOrderText, h_iOrderOk n o hl, Option.bind_some]
  cases h : ordB n o with
  | false => rfl
  | true =>
    obtain ⟨a1, a2, a3, a4, a5, a6, a7, a8, a9⟩ := ordB_in h
    have h1 := vB_len (v := o.1.toNat) (by omega)
    have h2 := vB_len (v := o.2.2.2.toNat) (by omega)
    have h3 := eT_len (eOk_len a9)
    simp only [Bool.not_true, cond_false, if_true, w_iVarText, Option.bind_some]
    rw [show inB o.1 0 1000000000 = true from inB_t.2 (by omega), show inB o.2.2.2 0 1000000000 = true from inB_t.2 (by omega), if_pos rfl, if_pos rfl, by_1, w_iedgesText _ (eOk_len a9)]
    simp only [BA_app, BA_size, Option.bind_some]
    rw [decide_eq_true (by simp; omega), cond_true, decide_eq_true (by simp; omega), cond_true, decide_eq_true (by simp; omega), cond_true]
    rfl
theorem w_sOrderText (n : Int) (o : Or') (hl : o.2.2.1.length ≤ 1048576) : g_sOrderText (n, o) = some (if ordB n o then (BA (oT o), true) else (BA [], false), ()) := by
  show f_sOrderText BIG _ = _
  rw [e_sOrderText, h_sOrderOk n o hl, Option.bind_some]
  cases h : ordB n o with
  | false => rfl
  | true =>
    obtain ⟨a1, a2, a3, a4, a5, a6, a7, a8, a9⟩ := ordB_in h
    have h1 := vB_len (v := o.1.toNat) (by omega)
    have h2 := vB_len (v := o.2.2.2.toNat) (by omega)
    have h3 := eT_len (eOk_len a9)
    have k1 := w_sl01Var o.1.toNat (by omega)
    have k2 := w_sl01Var o.2.2.2.toNat (by omega)
    rw [Int.toNat_of_nonneg (by omega)] at k1 k2
    simp only [Bool.not_true, cond_false, if_true, k1, k2, w_sl09Byte, w_sl09Edges _ (eOk_len a9), BA_app, BA_size, Option.bind_some]
    rw [decide_eq_true (by simp; omega), cond_true, decide_eq_true (by simp; omega), cond_true, decide_eq_true (by simp; omega), cond_true]
    rfl
def aT (a : An) : List UInt8 := ((vB a.1.toNat ++ flT a.2.1) ++ eT a.2.2.1) ++ a.2.2.2.map by8
theorem ansB_in {n : Int} {a : An} (h : ansB n a = true) : 1 ≤ n ∧ n ≤ 12 ∧ 1 ≤ a.1 ∧ a.1 ≤ 100000 ∧ eOk n a.2.2.1 = true ∧ (a.2.2.2.length : Int) = n ∧ lbOk n a.2.2.2 = true := by
  unfold ansB at h
  simp only [Bool.and_eq_true, inB_t] at h
  obtain ⟨hn, h1, h2, h3⟩ := h
  have h3' := h3
  unfold lbOk at h3
  split at h3
  · rename_i hl
    exact ⟨hn.1, hn.2, h1.1, h1.2, h2, hl, h3'⟩
  · cases h3
theorem aT_len {n : Int} {a : An} (h : ansB n a = true) : (aT a).length ≤ 300 := by
  obtain ⟨a1, a2, a3, a4, a5, a6, _⟩ := ansB_in h
  have h1 := vB_len (v := a.1.toNat) (by omega)
  have h3 := eT_len (eOk_len a5)
  simp only [aT, flT, List.length_append, List.length_cons, List.length_nil, List.length_map]; omega
theorem map_flat (l : List Int) : l.flatMap (fun y => [by8 y]) = l.map by8 := by
  induction l with
  | nil => rfl
  | cons y l ih => rw [List.flatMap_cons, ih]; rfl
theorem w_iAnswerText (n : Int) (a : An) (hl : a.2.2.1.length ≤ 1048576) (hl' : a.2.2.2.length ≤ 1048576) : g_iAnswerText (n, a) = some (if ansB n a then (BA (aT a), true) else (BA [], false), ()) := by
  have hm : maxLen = 9223372036854775807 := by decide
  show f_iAnswerText BIG _ = _
  rw [e_iAnswerText, h_iAnswerOk n a hl hl', Option.bind_some]
  cases h : ansB n a with
  | false => rfl
  | true =>
    obtain ⟨a1, a2, a3, a4, a5, a6, _⟩ := ansB_in h
    have h1 := vB_len (v := a.1.toNat) (by omega)
    have h3 := eT_len (eOk_len a5)
    have hf : (bif a.2.1 then some (ByteArray.mk #[1]) else some (ByteArray.mk #[0]) : Option ByteArray) = some (BA (flT a.2.1)) := by cases a.2.1 <;> rfl
    simp only [Bool.not_true, cond_false, if_true, w_iVarText, Option.bind_some]
    rw [show inB a.1 0 1000000000 = true from inB_t.2 (by omega), if_pos rfl, hf, Option.bind_some, w_iedgesText _ (eOk_len a5)]
    simp only [BA_app, BA_size, Option.bind_some]
    rw [decide_eq_true (by simp [flT]; omega), cond_true, decide_eq_true (by simp [flT]; omega), cond_true,
      foldG a.2.2.2 (by omega) (fun (s : List UInt8) i => (BA s, i)) (fun i s => s.length ≤ 300 + i) (fun s y => s ++ [by8 y]) BA (by simp [flT]; omega) (fun i s y _ h => by simp; omega), fold_flat (fun y => [by8 y]), map_flat]
    · rfl
    · intro self s i y hy hs
      have hi := (List.getElem?_eq_some_iff.1 hy).1
      simp only [show ((i : Int) < (a.2.2.2.length : Int)) from by omega, decide_true, cond_true]
      rw [bnd_nat hi, hy, Option.bind_some, wr1 (by omega), by_1, BA_app, BA_size, BA_size, decide_eq_true (by simp; omega)]
      rfl
    · intro self s _
      simp
theorem w_sAnswerText (n : Int) (a : An) (hl : a.2.2.1.length ≤ 1048576) (hl' : a.2.2.2.length ≤ 1048576) : g_sAnswerText (n, a) = some (if ansB n a then (BA (aT a), true) else (BA [], false), ()) := by
  have hm : maxLen = 9223372036854775807 := by decide
  show f_sAnswerText BIG _ = _
  rw [e_sAnswerText, h_sAnswerOk n a hl hl', Option.bind_some]
  cases h : ansB n a with
  | false => rfl
  | true =>
    obtain ⟨a1, a2, a3, a4, a5, a6, _⟩ := ansB_in h
    have h1 := vB_len (v := a.1.toNat) (by omega)
    have h3 := eT_len (eOk_len a5)
    have k1 := w_sl01Var a.1.toNat (by omega)
    rw [Int.toNat_of_nonneg (by omega)] at k1
    simp only [Bool.not_true, cond_false, if_true, k1, w_sl09Flag, w_sl09Edges _ (eOk_len a5), BA_app, BA_size, Option.bind_some]
    rw [decide_eq_true (by simp [flT]; omega), cond_true, decide_eq_true (by simp [flT]; omega), cond_true,
      foldG a.2.2.2 (by omega) (fun (s : List UInt8) i => (BA s, i)) (fun i s => s.length ≤ 300 + i) (fun s y => s ++ [by8 y]) BA (by simp [flT]; omega) (fun i s y _ h => by simp; omega), fold_flat (fun y => [by8 y]), map_flat]
    · rfl
    · intro self s i y hy hs
      have hi := (List.getElem?_eq_some_iff.1 hy).1
      simp only [show ((i : Int) < n) from by omega, decide_true, cond_true]
      rw [bnd_nat hi, hy, Option.bind_some, wr1 (by omega), w_sl09Byte, Option.bind_some, BA_app, BA_size, BA_size, decide_eq_true (by simp; omega)]
      rfl
    · intro self s _
      simp [a6]
def dec : Nat → List UInt8 → Option (Nat × Nat)
  | 0, _ => none
  | _ + 1, [] => none
  | k + 1, b :: l => if b.toNat < 128 then some (b.toNat, 1) else (dec k l).map fun r => (b.toNat - 128 + 128 * r.1, r.2 + 1)
theorem dec_in : ∀ {k : Nat} {l : List UInt8} {v m : Nat}, dec k l = some (v, m) → 1 ≤ m ∧ m ≤ k ∧ m ≤ l.length ∧ v < 128 ^ m
  | 0, _, _, _, h => by simp [dec] at h
  | _ + 1, [], _, _, h => by simp [dec] at h
  | k + 1, b :: l, v, m, h => by
    unfold dec at h
    split at h
    · cases h; simp; omega
    · simp only [Option.map_eq_some_iff] at h
      obtain ⟨⟨v', m'⟩, h1, h2⟩ := h
      cases h2
      obtain ⟨a1, a2, a3, a4⟩ := dec_in h1
      have := b.toNat_lt
      refine ⟨by omega, by omega, by simp; omega, ?_⟩
      rw [Nat.pow_succ]; simp only; omega
theorem dec_zero : ∀ {k : Nat} {l : List UInt8} {m : Nat}, dec k l = some (0, m) → l[m - 1]? = some 0
  | 0, _, _, h => by simp [dec] at h
  | _ + 1, [], _, h => by simp [dec] at h
  | k + 1, b :: l, m, h => by
    unfold dec at h
    split at h
    · simp only [Option.some.injEq, Prod.mk.injEq] at h
      obtain ⟨h1, rfl⟩ := h
      simp only [Nat.sub_self, List.getElem?_cons_zero, Option.some.injEq]
      exact UInt8.toNat_inj.1 h1
    · simp only [Option.map_eq_some_iff] at h
      obtain ⟨⟨v', m'⟩, h1, h2⟩ := h
      simp only [Prod.mk.injEq] at h2
      obtain ⟨h2, rfl⟩ := h2
      have hv : v' = 0 := by omega
      subst hv
      have h3 := dec_zero h1
      have h4 := (dec_in h1).1
      rw [show m' + 1 - 1 = (m' - 1) + 1 from by omega, List.getElem?_cons_succ]
      exact h3
theorem dec_one {k : Nat} {l : List UInt8} {v : Nat} (h : dec k l = some (v, 1)) : ∃ b, l[0]? = some b ∧ b.toNat = v := by
  cases k with
  | zero => simp [dec] at h
  | succ k =>
    cases l with
    | nil => simp [dec] at h
    | cons b l =>
      unfold dec at h
      split at h
      · cases h; exact ⟨b, rfl, rfl⟩
      · simp only [Option.map_eq_some_iff] at h
        obtain ⟨⟨v', m'⟩, h1, h2⟩ := h
        simp only [Prod.mk.injEq] at h2
        have := (dec_in h1).1
        omega
theorem dec_form : ∀ {k : Nat} {l : List UInt8} {v m : Nat}, k ≤ 5 → dec k l = some (v, m) → (vB v = l.take m ↔ (m = 1 ∨ l[m - 1]? ≠ some 0))
  | 0, _, _, _, _, h => by simp [dec] at h
  | _ + 1, [], _, _, _, h => by simp [dec] at h
  | k + 1, b :: l, v, m, hk, h => by
    have hin := dec_in h
    unfold dec at h
    split at h
    · cases h
      rename_i hb
      rw [vB_lo (by omega), by8_of]
      simp
    · rename_i hb
      simp only [Option.map_eq_some_iff] at h
      obtain ⟨⟨v', m'⟩, h1, h2⟩ := h
      simp only [Prod.mk.injEq] at h2
      obtain ⟨rfl, rfl⟩ := h2
      have hb' := b.toNat_lt
      obtain ⟨a1, a2, a3, a4⟩ := dec_in h1
      have hlt : v' < 34359738368 := Nat.lt_of_lt_of_le a4 (Nat.pow_le_pow_right (by omega) (show m' ≤ 5 by omega))
      have ih := dec_form (show k ≤ 5 by omega) h1
      have hlt2 : b.toNat - 128 + 128 * v' < 34359738368 := Nat.lt_of_lt_of_le hin.2.2.2 (Nat.pow_le_pow_right (by omega) (show m' + 1 ≤ 5 by omega))
      have e1 : (b :: l)[m' + 1 - 1]? = l[m' - 1]? := by rw [show m' + 1 - 1 = (m' - 1) + 1 from by omega, List.getElem?_cons_succ]
      rw [e1, List.take_succ_cons]
      by_cases hs : b.toNat - 128 + 128 * v' ≤ 127
      · have hv : v' = 0 := by omega
        subst hv
        have h0 := dec_zero h1
        rw [vB_lo hs, h0]
        constructor
        · intro h
          have := congrArg List.length h
          rw [List.length_cons, List.length_nil, List.length_cons, List.length_take] at this
          omega
        · rintro (h | h)
          · omega
          · exact absurd rfl h
      · rw [vB_hi (by omega) hlt2]
        have q1 : (b.toNat - 128 + 128 * v') % 128 + 128 = b.toNat := by omega
        have q2 : (b.toNat - 128 + 128 * v') / 128 = v' := by omega
        rw [q1, q2, by8_of, List.cons.injEq]
        simp only [true_and, ih]
        constructor
        · rintro (h | h)
          · subst h
            obtain ⟨c, hc1, hc2⟩ := dec_one h1
            right
            simp only [Nat.sub_self, hc1, ne_eq, Option.some.injEq]
            rintro rfl
            have : v' = 0 := by rw [← hc2]; rfl
            omega
          · exact .inr h
        · rintro (h | h)
          · omega
          · exact .inr h
def rdV (l : List UInt8) : Option (Nat × Nat) := match dec 5 l with
  | some (v, m) => if v ≤ 1000000000 ∧ vB v = l.take m then some (v, m) else none
  | none => none
theorem rdV_in {l : List UInt8} {v m : Nat} (h : rdV l = some (v, m)) : v ≤ 1000000000 ∧ vB v = l.take m ∧ 1 ≤ m ∧ m ≤ 5 ∧ m ≤ l.length := by
  unfold rdV at h
  split at h
  · rename_i v' m' hd
    split at h
    · rename_i hc
      cases h
      obtain ⟨a1, a2, a3, a4⟩ := dec_in hd
      exact ⟨hc.1, hc.2, a1, a2, a3⟩
    · cases h
  · cases h
theorem rvLoop (T : List UInt8) (a : Nat) {B : Type} {F : (Int × Int × Int → Option B) → Int × Int × Int → Option B} (z : B) (fin : Nat → Nat → B)
    (hF : ∀ self (acc u i : Nat) b, T[i]? = some b → a ≤ i → i < a + 5 → acc < 268435456 → u ≤ 268435456 → F self ((acc : Int), (u : Int), (i : Int)) = if b.toNat < 128 then some (fin (acc + b.toNat * u) i) else self (((acc + (b.toNat - 128) * u : Nat) : Int), ((u * 128 : Nat) : Int), ((i + 1 : Nat) : Int)))
    (hE : ∀ self (acc u i : Nat), (T[i]? = none ∨ i = a + 5) → a ≤ i → F self ((acc : Int), (u : Int), (i : Int)) = some z) :
    loopT BIG F (0, 1, (a : Int)) = some (match dec 5 (T.drop a) with | some (v, m) => fin v (a + m - 1) | none => z) := by
  have key : ∀ (k n j acc : Nat), j + k = 5 → k < n → acc < 128 ^ j → it F n ((acc : Int), ((128 ^ j : Nat) : Int), ((a + j : Nat) : Int)) = some (match dec k (T.drop (a + j)) with | some (v, m) => fin (acc + 128 ^ j * v) (a + j + m - 1) | none => z) := by
    intro k
    induction k with
    | zero =>
      intro n j acc hj hn ha
      obtain ⟨m, rfl⟩ : ∃ m, n = m + 1 := ⟨n - 1, by omega⟩
      show F (it F m) _ = _
      rw [hE _ _ _ _ (.inr (by omega)) (by omega)]
      rfl
    | succ k ih =>
      intro n j acc hj hn ha
      obtain ⟨m, rfl⟩ : ∃ m, n = m + 1 := ⟨n - 1, by omega⟩
      show F (it F m) _ = _
      have hp : 128 ^ j ≤ 268435456 := Nat.pow_le_pow_right (by omega) (show j ≤ 4 by omega)
      cases hb : T[a + j]? with
      | none =>
        rw [hE _ _ _ _ (.inl hb) (by omega)]
        have : T.drop (a + j) = [] := List.drop_eq_nil_iff.2 (by simpa using hb)
        rw [this]; rfl
      | some b =>
        have hi := (List.getElem?_eq_some_iff.1 hb).1
        have hbl := b.toNat_lt
        have hd : T.drop (a + j) = b :: T.drop (a + (j + 1)) := by
          rw [List.drop_eq_getElem_cons hi]
          congr 1
          exact (List.getElem?_eq_some_iff.1 hb).2
        rw [hF _ _ _ _ b hb (by omega) (by omega) (by omega) hp, hd]
        unfold dec
        split
        · simp only [Nat.add_sub_cancel]
          rw [Nat.mul_comm]
        · have := ih m (j + 1) (acc + (b.toNat - 128) * 128 ^ j) (by omega) (by omega) (by
            rw [Nat.pow_succ]
            have : (b.toNat - 128) * 128 ^ j ≤ 127 * 128 ^ j := Nat.mul_le_mul_right _ (by omega)
            omega)
          rw [Nat.pow_succ] at this
          rw [show a + j + 1 = a + (j + 1) from by omega, this]
          cases dec k (T.drop (a + (j + 1))) with
          | none => rfl
          | some r =>
            obtain ⟨v, m⟩ := r
            simp only [Option.map_some]
            congr 2
            · rw [Nat.mul_add, Nat.mul_comm (128 ^ j) (b.toNat - 128), Nat.mul_assoc]
              omega
            · omega
  have := key 5 BIG 0 0 (by omega) (by decide) (by simp)
  show it F BIG _ = _
  simpa using this
def rvR (T : List UInt8) (a : Int) : Int × Int × Bool :=
  if inB a 0 (T.length : Int) then (match rdV (T.drop a.toNat) with | some (v, m) => ((v : Int), a + (m : Int), true) | none => (0, 0, false)) else (0, 0, false)
theorem w_iReadVar (T : List UInt8) (a : Int) (hl : T.length ≤ 2097152) : g_iReadVar (BA T, a) = some (rvR T a, ()) := by
  show f_iReadVar BIG _ = _
  rw [e_iReadVar, h_iin', Option.bind_some, BA_size]
  unfold rvR
  cases ha : inB a 0 (T.length : Int) with
  | false => rfl
  | true =>
    rw [inB_t] at ha
    obtain ⟨a, rfl⟩ : ∃ b : Nat, a = b := ⟨a.toNat, by omega⟩
    simp only [Bool.not_true, cond_false, if_true, Int.toNat_natCast]
    rw [rvLoop T a (z := .inl ()) (fun v i => if (T[i]? = some 0 ∧ a < i) ∨ 1000000000 < v then .inl () else .inr ((v : Int), (i : Int) + 1, true))]
    · unfold rdV
      cases hd : dec 5 (T.drop a) with
      | none => rfl
      | some r =>
        obtain ⟨v, m⟩ := r
        have hf := dec_form (by omega) hd
        obtain ⟨a1, a2, a3, a4⟩ := dec_in hd
        rw [List.getElem?_drop, show a + (m - 1) = a + m - 1 from by omega] at hf
        simp only
        by_cases hc : (T[a + m - 1]? = some 0 ∧ a < a + m - 1) ∨ 1000000000 < v
        · rw [if_pos hc, if_neg]
          · rfl
          · rintro ⟨h1, h2⟩
            have := hf.1 h2
            rcases hc with ⟨hc1, hc2⟩ | hc
            · rcases this with h | h
              · omega
              · exact h hc1
            · omega
        · rw [if_neg hc, if_pos]
          · rw [show ((a + m - 1 : Nat) : Int) + 1 = (a : Int) + (m : Int) from by omega]
            rfl
          · refine ⟨Nat.le_of_not_lt fun h => hc (.inr h), hf.2 ?_⟩
            by_cases hm : m = 1
            · exact .inl hm
            · exact .inr fun h => hc (.inl ⟨h, by omega⟩)
    · intro self acc u i b hb hai hia hacc hu
      have hi := (List.getElem?_eq_some_iff.1 hb).1
      have hbl := b.toNat_lt
      have hbu : b.toNat * u ≤ 255 * 268435456 := Nat.mul_le_mul (by omega) hu
      have hml : maxLen = 9223372036854775807 := by decide
      simp only [show ((i : Int) < (T.length : Int)) from by omega, decide_true, cond_true, Option.bind_some]
      rw [wr (n := (a : Int) + 5) (by omega) (by omega), decide_eq_true (show (i : Int) < (a : Int) + 5 from by omega), cond_true, bnd_nat hi, BA_get, hb, Option.bind_some]
      rw [show decide ((128 : Int) = 0) = false from rfl, cond_false, wr (n := (b.toNat : Int)) (by omega) (by omega)]
      rw [Int.tmod_eq_emod_of_nonneg (by omega)]
      by_cases h : b.toNat < 128
      · have e1 : (b.toNat : Int) % 128 = (b.toNat : Int) := by omega
        have e2 : (b.toNat : Int) * (u : Int) = ((b.toNat * u : Nat) : Int) := by simp
        rw [decide_eq_true (by omega), cond_true, if_pos h, e1, e2, wrapi (by omega), show ((acc : Int) + ((b.toNat * u : Nat) : Int)) = ((acc + b.toNat * u : Nat) : Int) from by omega, wrapi (by omega), wr1 (by omega)]
        have hz : some b = some 0 ↔ b.toNat = 0 := by
          rw [Option.some.injEq]
          constructor
          · rintro rfl; rfl
          · intro h; exact UInt8.toNat_inj.1 h
        by_cases c1 : b.toNat = 0
        · rw [decide_eq_true (by omega), cond_true]
          by_cases c2 : a < i
          · rw [decide_eq_true (by omega)]
            simp only [cond_true, Option.bind_some]
            rw [if_pos (.inl ⟨hz.2 c1, c2⟩)]
          · rw [decide_eq_false (by omega)]
            simp only [cond_false, Option.bind_some]
            by_cases c3 : 1000000000 < acc + b.toNat * u
            · rw [decide_eq_true (by omega), if_pos (.inr c3)]; rfl
            · rw [decide_eq_false (by omega), if_neg (by rintro (h | h) <;> omega)]; rfl
        · rw [decide_eq_false (by omega)]
          simp only [cond_false, Option.bind_some]
          by_cases c3 : 1000000000 < acc + b.toNat * u
          · rw [decide_eq_true (by omega), if_pos (.inr c3)]; rfl
          · rw [decide_eq_false (by omega), if_neg (by
              rintro (⟨h, _⟩ | h)
              · exact c1 (hz.1 h)
              · omega)]; rfl
      · have e1 : (b.toNat : Int) % 128 = ((b.toNat - 128 : Nat) : Int) := by omega
        have e2 : ((b.toNat - 128 : Nat) : Int) * (u : Int) = (((b.toNat - 128) * u : Nat) : Int) := by simp
        have hb2 : (b.toNat - 128) * u ≤ b.toNat * u := Nat.mul_le_mul_right _ (by omega)
        rw [decide_eq_false (by omega), cond_false, if_neg h, e1, e2, wrapi (by omega), show ((acc : Int) + (((b.toNat - 128) * u : Nat) : Int)) = ((acc + (b.toNat - 128) * u : Nat) : Int) from by omega, wrapi (by omega), wr1 (by omega), show (u : Int) * 128 = ((u * 128 : Nat) : Int) from by simp, wrapi (by omega)]
    · intro self acc u i hi hai
      simp only
      by_cases c : (i : Int) < (T.length : Int)
      · rcases hi with hi | hi
        · rw [List.getElem?_eq_none_iff] at hi; omega
        · rw [decide_eq_true c, cond_true, wr (n := (a : Int) + 5) (by omega) (by omega), decide_eq_false (by omega)]; rfl
      · rw [decide_eq_false c]; rfl
theorem w_sReadVar (T : List UInt8) (a : Int) (hl : T.length ≤ 2097152) : g_sReadVar (BA T, a) = some (rvR T a, ()) := by
  show f_sReadVar BIG _ = _
  rw [e_sReadVar, h_sl01In', Option.bind_some, BA_size]
  unfold rvR
  cases ha : inB a 0 (T.length : Int) with
  | false => rfl
  | true =>
    rw [inB_t] at ha
    obtain ⟨a, rfl⟩ : ∃ b : Nat, a = b := ⟨a.toNat, by omega⟩
    simp only [Bool.not_true, cond_false, if_true, Int.toNat_natCast]
    rw [rvLoop T a (z := .inl ()) (fun v i => if 1000000000 < v ∨ vB v ≠ (T.drop a).take (i + 1 - a) then .inr (0, 0, false) else .inr ((v : Int), (i : Int) + 1, true))]
    · unfold rdV
      cases hd : dec 5 (T.drop a) with
      | none => rfl
      | some r =>
        obtain ⟨v, m⟩ := r
        obtain ⟨a1, a2, a3, a4⟩ := dec_in hd
        simp only
        rw [show a + m - 1 + 1 - a = m from by omega]
        by_cases hc : 1000000000 < v ∨ vB v ≠ (T.drop a).take m
        · rw [if_pos hc, if_neg]
          · rfl
          · rintro ⟨h1, h2⟩
            rcases hc with hc | hc
            · omega
            · exact hc h2
        · rw [if_neg hc, if_pos]
          · rw [show ((a + m - 1 : Nat) : Int) + 1 = (a : Int) + (m : Int) from by omega]
            rfl
          · refine ⟨Nat.le_of_not_lt fun h => hc (.inl h), Classical.byContradiction fun h => hc (.inr h)⟩
    · intro self acc u i b hb hai hia hacc hu
      have hi := (List.getElem?_eq_some_iff.1 hb).1
      have hbl := b.toNat_lt
      have hbu : b.toNat * u ≤ 255 * 268435456 := Nat.mul_le_mul (by omega) hu
      have hml : maxLen = 9223372036854775807 := by decide
      simp only [show ((i : Int) < (T.length : Int)) from by omega, decide_true, cond_true, Option.bind_some]
      rw [wr (n := (a : Int) + 5) (by omega) (by omega), decide_eq_true (show (i : Int) < (a : Int) + 5 from by omega), cond_true, bnd_nat hi, BA_get, hb, Option.bind_some]
      rw [show decide ((128 : Int) = 0) = false from rfl, cond_false, bnd_nat hi, BA_get, hb, Option.bind_some, wr (n := (b.toNat : Int)) (by omega) (by omega)]
      rw [Int.tmod_eq_emod_of_nonneg (by omega)]
      by_cases h : b.toNat < 128
      · have e1 : (b.toNat : Int) % 128 = (b.toNat : Int) := by omega
        have e2 : (b.toNat : Int) * (u : Int) = ((b.toNat * u : Nat) : Int) := by simp
        have hu5 : acc + b.toNat * u < 34359738368 := by
          have : b.toNat * u ≤ 127 * 268435456 := Nat.mul_le_mul (by omega) hu
          omega
        rw [decide_eq_true (by omega), cond_true, if_pos h, e1, e2, wrapi (by omega), show ((acc : Int) + ((b.toNat * u : Nat) : Int)) = ((acc + b.toNat * u : Nat) : Int) from by omega, wrapi (by omega), wr1 (by omega)]
        by_cases c3 : 1000000000 < acc + b.toNat * u
        · rw [decide_eq_true (by omega), if_pos (.inl c3)]; rfl
        · rw [decide_eq_false (by omega), cond_false, w_sl01Var _ hu5, Option.bind_some, decide_eq_true (by omega), cond_true]
          simp only [Int.toNat_natCast, BA_ext, BA_toList, Option.bind_some]
          by_cases c4 : vB (acc + b.toNat * u) = (T.drop a).take (i + 1 - a)
          · rw [if_neg (by rintro (h | h); omega; exact h c4), c4, beq_self_eq_true]; rfl
          · rw [if_pos (.inr c4), beq_eq_false_iff_ne.2 c4]; rfl
      · have e1 : (b.toNat : Int) % 128 = ((b.toNat - 128 : Nat) : Int) := by omega
        have e2 : ((b.toNat - 128 : Nat) : Int) * (u : Int) = (((b.toNat - 128) * u : Nat) : Int) := by simp
        have hb2 : (b.toNat - 128) * u ≤ b.toNat * u := Nat.mul_le_mul_right _ (by omega)
        rw [decide_eq_false (by omega), cond_false, if_neg h, e1, e2, wrapi (by omega), show ((acc : Int) + (((b.toNat - 128) * u : Nat) : Int)) = ((acc + (b.toNat - 128) * u : Nat) : Int) from by omega, wrapi (by omega), wr1 (by omega), show (u : Int) * 128 = ((u * 128 : Nat) : Int) from by simp, wrapi (by omega)]
    · intro self acc u i hi hai
      simp only
      by_cases c : (i : Int) < (T.length : Int)
      · rcases hi with hi | hi
        · rw [List.getElem?_eq_none_iff] at hi; omega
        · rw [decide_eq_true c, cond_true, wr (n := (a : Int) + 5) (by omega) (by omega), decide_eq_false (by omega)]; rfl
      · rw [decide_eq_false c]; rfl
abbrev St := Nat × Bool
def nm (T : List UInt8) (s : St) : Int × St :=
  if s.2 then (0, (s.1, true)) else match rdV (T.drop s.1) with
  | some (v, m) => ((v : Int), (s.1 + m, false))
  | none => (0, (s.1, true))
def on (T : List UInt8) (s : St) : Int × St :=
  if s.2 then (0, (s.1, true)) else match T[s.1]? with
  | some b => ((b.toNat : Int), (s.1 + 1, false))
  | none => (0, (s.1, true))
theorem nm_le {T : List UInt8} {s : St} (h : s.1 ≤ T.length) : (nm T s).2.1 ≤ T.length := by
  unfold nm
  split
  · exact h
  · split
    · rename_i v m hd
      have := (rdV_in hd).2.2.2.2
      rw [List.length_drop] at this
      simp only; omega
    · exact h
theorem on_le {T : List UInt8} {s : St} (h : s.1 ≤ T.length) : (on T s).2.1 ≤ T.length := by
  unfold on
  split
  · exact h
  · split
    · rename_i b hb
      exact (List.getElem?_eq_some_iff.1 hb).1
    · exact h
theorem nm_bad {T : List UInt8} {s : St} (h : (nm T s).2.2 = false) : s.2 = false := by
  unfold nm at h
  split at h
  · simp at h
  · rename_i hs; simpa using hs
theorem on_bad {T : List UInt8} {s : St} (h : (on T s).2.2 = false) : s.2 = false := by
  unfold on at h
  split at h
  · simp at h
  · rename_i hs; simpa using hs
theorem nm_take {T : List UInt8} {s : St} (hs : s.1 ≤ T.length) (h : (nm T s).2.2 = false) : T.take (nm T s).2.1 = T.take s.1 ++ vB (nm T s).1.toNat ∧ 0 ≤ (nm T s).1 ∧ (nm T s).1 ≤ 1000000000 := by
  have hb := nm_bad h
  unfold nm at h ⊢
  rw [if_neg (by simp [hb])] at h ⊢
  split at h
  · rename_i v m hd
    have hi := rdV_in hd
    simp only [hd]
    refine ⟨?_, by omega, by omega⟩
    rw [Int.toNat_natCast, hi.2.1, List.take_add]
  · simp at h
theorem on_take {T : List UInt8} {s : St} (h : (on T s).2.2 = false) : T.take (on T s).2.1 = T.take s.1 ++ [by8 (on T s).1] ∧ 0 ≤ (on T s).1 ∧ (on T s).1 ≤ 255 ∧ (on T s).2.1 = s.1 + 1 := by
  have hb := on_bad h
  unfold on at h ⊢
  rw [if_neg (by simp [hb])] at h ⊢
  split at h
  · rename_i b hb'
    simp only [hb']
    have := b.toNat_lt
    refine ⟨?_, by omega, by omega, trivial⟩
    rw [by8_of, List.take_add_one, hb']
    rfl
  · simp at h
theorem w_ireader_num (T : List UInt8) (s : St) (hs : s.1 ≤ T.length) (hl : T.length ≤ 2097152) : g_ireader_num (BA T, (s.1 : Int), s.2) = some ((nm T s).1, (BA T, ((nm T s).2.1 : Int), (nm T s).2.2)) := by
  show f_ireader_num BIG _ = _
  rw [e_ireader_num]
  dsimp only
  rw [w_iReadVar T _ hl, Option.bind_some]
  unfold rvR nm
  rw [show inB (s.1 : Int) 0 (T.length : Int) = true from inB_t.2 (by omega), if_pos rfl, Int.toNat_natCast]
  cases s.2 with
  | true => rfl
  | false =>
    cases rdV (T.drop s.1) with
    | none => rfl
    | some r => rfl
theorem w_sl09Var (T : List UInt8) (s : St) (hs : s.1 ≤ T.length) (hl : T.length ≤ 2097152) : g_sl09Var (BA T, (s.1 : Int), s.2) = some ((nm T s).1, (BA T, ((nm T s).2.1 : Int), (nm T s).2.2)) := by
  show f_sl09Var BIG _ = _
  rw [e_sl09Var]
  dsimp only
  rw [w_sReadVar T _ hl, Option.bind_some]
  unfold rvR nm
  rw [show inB (s.1 : Int) 0 (T.length : Int) = true from inB_t.2 (by omega), if_pos rfl, Int.toNat_natCast]
  cases s.2 with
  | true => rfl
  | false =>
    cases rdV (T.drop s.1) with
    | none => rfl
    | some r => rfl
theorem w_ireader_one (T : List UInt8) (s : St) (hs : s.1 ≤ T.length) (hl : T.length ≤ 2097152) : g_ireader_one (BA T, (s.1 : Int), s.2) = some ((on T s).1, (BA T, ((on T s).2.1 : Int), (on T s).2.2)) := by
  show f_ireader_one BIG _ = _
  rw [e_ireader_one]
  dsimp only
  rw [BA_size]
  unfold on
  cases hb : s.2 with
  | true => rfl
  | false =>
    simp only [cond_false, Option.bind_some, Bool.false_eq_true, if_false]
    by_cases h : s.1 < T.length
    · rw [decide_eq_false (by omega), cond_false, wr (n := (s.1 : Int) + 1) (by omega) (by omega), wr (by omega) (by omega), show (s.1 : Int) + 1 - 1 = (s.1 : Int) from by omega, bnd_nat h, BA_get, List.getElem?_eq_getElem h]
      have := (T[s.1]).toNat_lt
      simp only [Option.bind_some]
      rw [wr (by omega) (by omega)]
      rfl
    · rw [decide_eq_true (by omega), List.getElem?_eq_none (by omega)]; rfl
theorem w_sl09One (T : List UInt8) (s : St) (hs : s.1 ≤ T.length) (hl : T.length ≤ 2097152) : g_sl09One (BA T, (s.1 : Int), s.2) = some ((on T s).1, (BA T, ((on T s).2.1 : Int), (on T s).2.2)) := by
  show f_sl09One BIG _ = _
  rw [e_sl09One]
  have ht : g_sl09Take ((BA T, (s.1 : Int), s.2), 1) = f_sl09Take BIG ((BA T, (s.1 : Int), s.2), 1) := rfl
  rw [ht, e_sl09Take]
  dsimp only
  rw [BA_size]
  unfold on
  cases hb : s.2 with
  | true => rfl
  | false =>
    simp only [cond_false, Option.bind_some, Bool.false_eq_true, if_false]
    rw [wr (n := (T.length : Int) - (s.1 : Int)) (by omega) (by omega)]
    by_cases h : s.1 < T.length
    · rw [decide_eq_false (by omega), cond_false, wr (n := (s.1 : Int) + 1) (by omega) (by omega), wr (n := (s.1 : Int) + 1 - 1) (by omega) (by omega), decide_eq_true (by omega)]
      simp only [cond_true, Option.bind_some, cond_false, BA_ext]
      rw [show ((s.1 : Int) + 1 - 1).toNat = s.1 from by omega, show ((s.1 : Int) + 1).toNat = s.1 + 1 from by omega, List.getElem?_eq_getElem h, BA_size]
      have h1 : ((T.drop s.1).take (s.1 + 1 - s.1)).length = 1 := by simp; omega
      rw [h1]
      have h2 : (BA ((T.drop s.1).take (s.1 + 1 - s.1)))[0]? = some T[s.1] := by
        rw [BA_get, List.getElem?_take_of_lt (by omega), List.getElem?_drop, Nat.add_zero, List.getElem?_eq_getElem h]
      have hbd : ∀ {B : Type} (k : Nat → Option B), bnd 1 (0 : Int) k = k 0 := fun k => rfl
      rw [hbd, h2]
      have := (T[s.1]).toNat_lt
      simp only [Option.bind_some]
      rw [wr (by omega) (by omega)]
      rfl
    · rw [decide_eq_true (by omega), List.getElem?_eq_none (by omega)]; rfl
def edF (T : List UInt8) : Nat → St → List Ed → St × List Ed
  | 0, s, out => (s, out)
  | k + 1, s, out => if s.2 then (s, out) else edF T k (on T (on T s).2).2 (out ++ [((on T s).1, (on T (on T s).2).1)])
theorem edF_spec (T : List UInt8) : ∀ (k : Nat) (s : St) (out : List Ed), s.1 ≤ T.length → (edF T k s out).1.1 ≤ T.length ∧ ((edF T k s out).1.2 = false → s.2 = false ∧ ∃ es, (edF T k s out).2 = out ++ es ∧ es.length = k ∧ T.take (edF T k s out).1.1 = T.take s.1 ++ es.flatMap e2)
  | 0, s, out, h => ⟨h, fun hb => ⟨hb, [], by simp [edF]⟩⟩
  | k + 1, s, out, h => by
    unfold edF
    cases hs : s.2 with
    | true => exact ⟨h, fun hb => by rw [if_pos rfl] at hb; rw [hs] at hb; cases hb⟩
    | false =>
      simp only [Bool.false_eq_true, if_false]
      have h1 := on_le h
      have h2 := on_le h1
      obtain ⟨a1, a2⟩ := edF_spec T k (on T (on T s).2).2 (out ++ [((on T s).1, (on T (on T s).2).1)]) h2
      refine ⟨a1, fun hb => ⟨trivial, ?_⟩⟩
      obtain ⟨b1, es, b2, b3, b4⟩ := a2 hb
      have c1 := on_take b1
      have c2 := on_take (on_bad b1)
      refine ⟨((on T s).1, (on T (on T s).2).1) :: es, by rw [b2]; simp, by simp [b3], ?_⟩
      rw [b4, c1.1, c2.1, List.flatMap_cons]
      simp [e2]
theorem edLoop (T : List UInt8) (hl : T.length ≤ 2097152) {X : Type} {F : (X → Option ((ByteArray × Int × Bool) × List Ed)) → X → Option ((ByteArray × Int × Bool) × List Ed)} (mk : St → List Ed → Nat → X) (K : Nat)
    (hF : ∀ self (s : St) (out : List Ed) (k : Nat), k + 1 ≤ K → s.1 ≤ T.length → (s.2 = false → out.length ≤ s.1) → F self (mk s out (k + 1)) = if s.2 then some ((BA T, (s.1 : Int), s.2), out) else self (mk (on T (on T s).2).2 (out ++ [((on T s).1, (on T (on T s).2).1)]) k))
    (hE : ∀ self (s : St) (out : List Ed), F self (mk s out 0) = some ((BA T, (s.1 : Int), s.2), out)) :
    ∀ (k n : Nat) (s : St) (out : List Ed), k ≤ K → k < n → s.1 ≤ T.length → (s.2 = false → out.length ≤ s.1) → it F n (mk s out k) = some ((BA T, ((edF T k s out).1.1 : Int), (edF T k s out).1.2), (edF T k s out).2)
  | 0, n, s, out, hk, hn, hs, ho => by
    obtain ⟨m, rfl⟩ : ∃ m, n = m + 1 := ⟨n - 1, by omega⟩
    exact hE _ _ _
  | k + 1, n, s, out, hk, hn, hs, ho => by
    obtain ⟨m, rfl⟩ : ∃ m, n = m + 1 := ⟨n - 1, by omega⟩
    show F (it F m) _ = _
    rw [hF _ _ _ _ hk hs ho]
    unfold edF
    cases hb : s.2 with
    | true => simp [hb]
    | false =>
      simp only [Bool.false_eq_true, if_false]
      refine edLoop T hl mk K hF hE k m _ _ (by omega) (by omega) (on_le (on_le hs)) (fun h => ?_)
      have h1 := (on_take h).2.2.2
      have h2 := (on_take (on_bad h)).2.2.2
      have := ho hb
      simp; omega
theorem nm_nn (T : List UInt8) (s : St) : 0 ≤ (nm T s).1 ∧ (nm T s).1 ≤ 1000000000 := by
  unfold nm
  split
  · simp
  · split
    · rename_i v m hd
      have := (rdV_in hd).1
      simp only; omega
    · simp
theorem w_ireader_edges (T : List UInt8) (s : St) (hs : s.1 ≤ T.length) (hl : T.length ≤ 2097152) : g_ireader_edges (BA T, (s.1 : Int), s.2) =
    some ((edF T (nm T s).1.toNat (nm T s).2 []).2, (BA T, ((edF T (nm T s).1.toNat (nm T s).2 []).1.1 : Int), (edF T (nm T s).1.toNat (nm T s).2 []).1.2)) := by
  show f_ireader_edges BIG _ = _
  rw [e_ireader_edges, w_ireader_num T s hs hl, Option.bind_some]
  have hnn := nm_nn T s
  obtain ⟨k, hk⟩ : ∃ k : Nat, (nm T s).1 = k := ⟨(nm T s).1.toNat, by omega⟩
  simp only
  rw [hk, Int.toNat_natCast]
  have L := edLoop T hl (F := fun self2 x1 =>
    Option.bind (bif decide ((0 : Int) < x1.2.2) then
      some !x1.1.2.2
     else some false : Option (Bool)) fun x3 =>
    bif x3 then
     Option.bind (g_ireader_one x1.1) fun r4 =>
     Option.bind (g_ireader_one r4.2) fun r5 =>
     bif decide (x1.2.1.length + ([(r4.1, r5.1)]).length ≤ 4294967296) then
      self2 (r5.2, x1.2.1 ++ ([(r4.1, r5.1)]), IntKind.wrap .i64 (x1.2.2 - (1 : Int)))
     else none
    else some (x1.1, x1.2.1)) (fun s out k => ((BA T, (s.1 : Int), s.2), out, (k : Int))) 1000000000 (by
    intro self s out k hk hs ho
    simp only [show (0 : Int) < ((k + 1 : Nat) : Int) from by omega, decide_true, cond_true, Option.bind_some]
    cases hb : s.2 with
    | true => rfl
    | false =>
      have := ho hb
      simp only [Bool.not_false, cond_true, Bool.false_eq_true, if_false]
      rw [← hb, w_ireader_one T s hs hl, Option.bind_some, w_ireader_one T _ (on_le hs) hl, Option.bind_some, decide_eq_true (by simp; omega), cond_true, wr (by omega) (by omega), show ((k + 1 : Nat) : Int) - 1 = (k : Int) from by omega]) (by
    intro self s out
    simp) k BIG (nm T s).2 [] (by omega) (by simp [BIG]; omega) (nm_le hs) (by simp)
  unfold loopT
  rw [L]
  rfl
theorem w_sl09ReadEdges (T : List UInt8) (s : St) (hs : s.1 ≤ T.length) (hl : T.length ≤ 2097152) : g_sl09ReadEdges (BA T, (s.1 : Int), s.2) =
    some ((edF T (min (nm T s).1.toNat 100) (nm T s).2 []).2, (BA T, ((edF T (min (nm T s).1.toNat 100) (nm T s).2 []).1.1 : Int), (edF T (min (nm T s).1.toNat 100) (nm T s).2 []).1.2)) := by
  show f_sl09ReadEdges BIG _ = _
  rw [e_sl09ReadEdges, w_sl09Var T s hs hl, Option.bind_some]
  have hnn := nm_nn T s
  obtain ⟨N, hN⟩ : ∃ k : Nat, (nm T s).1 = k := ⟨(nm T s).1.toNat, by omega⟩
  simp only
  rw [hN, Int.toNat_natCast]
  have L := edLoop T hl (F := fun self2 x1 =>
    Option.bind (bif decide (x1.2.2 < (N : Int)) then
      bif decide (x1.2.2 < (100 : Int)) then
       some !x1.1.2.2
      else some false
     else some false : Option (Bool)) fun x3 =>
    bif x3 then
     Option.bind (g_sl09One x1.1) fun r4 =>
     Option.bind (g_sl09One r4.2) fun r5 =>
     bif decide (x1.2.1.length + ([(r4.1, r5.1)]).length ≤ 4294967296) then
      self2 (r5.2, x1.2.1 ++ ([(r4.1, r5.1)]), IntKind.wrap .i64 (x1.2.2 + (1 : Int)))
     else none
    else some (x1.1, x1.2.1)) (fun s out k => ((BA T, (s.1 : Int), s.2), out, ((min N 100 : Nat) : Int) - (k : Int))) (min N 100) (by
    intro self s out k hk hs ho
    simp only [show ((min N 100 : Nat) : Int) - ((k + 1 : Nat) : Int) < (N : Int) from by omega, show ((min N 100 : Nat) : Int) - ((k + 1 : Nat) : Int) < 100 from by omega, decide_true, cond_true, Option.bind_some]
    cases hb : s.2 with
    | true => rfl
    | false =>
      have := ho hb
      simp only [Bool.not_false, cond_true, Bool.false_eq_true, if_false]
      rw [← hb, w_sl09One T s hs hl, Option.bind_some, w_sl09One T _ (on_le hs) hl, Option.bind_some, decide_eq_true (by simp; omega), cond_true, wr (by omega) (by omega), show ((min N 100 : Nat) : Int) - ((k + 1 : Nat) : Int) + 1 = ((min N 100 : Nat) : Int) - (k : Int) from by omega]) (by
    intro self s out
    simp only [Int.natCast_zero, Int.sub_zero]
    by_cases h : ((min N 100 : Nat) : Int) < (N : Int)
    · rw [decide_eq_true h, cond_true, decide_eq_false (by omega)]; rfl
    · rw [decide_eq_false h]; rfl) (min N 100) BIG (nm T s).2 [] (by omega) (by simp [BIG]; omega) (nm_le hs) (by simp)
  rw [show ((min N 100 : Nat) : Int) - ((min N 100 : Nat) : Int) = 0 from by omega] at L
  unfold loopT
  rw [L]
  rfl
theorem edF_len (T : List UInt8) : ∀ (k : Nat) (s : St) (out : List Ed), (edF T k s out).2.length ≤ out.length + k
  | 0, s, out => by simp [edF]
  | k + 1, s, out => by
    unfold edF
    split
    · exact Nat.le_add_right _ _
    · have := edF_len T k (on T (on T s).2).2 (out ++ [((on T s).1, (on T (on T s).2).1)])
      simp at this; omega
theorem ed_take {T : List UInt8} {s : St} {K : Nat} (hs : s.1 ≤ T.length) (hK : K = (nm T s).1.toNat) (h : (edF T K (nm T s).2 []).1.2 = false) :
    (nm T s).2.2 = false ∧ (edF T K (nm T s).2 []).2.length = K ∧ T.take (edF T K (nm T s).2 []).1.1 = T.take s.1 ++ eT (edF T K (nm T s).2 []).2 := by
  obtain ⟨h1, h2⟩ := edF_spec T K (nm T s).2 [] (nm_le hs)
  obtain ⟨b1, es, b2, b3, b4⟩ := h2 h
  have c := nm_take hs b1
  rw [List.nil_append] at b2
  refine ⟨b1, by rw [b2]; exact b3, ?_⟩
  rw [b4, c.1, ← hK, List.append_assoc, b2]
  unfold eT
  rw [b3]
theorem take_full {T : List UInt8} {p : Nat} (hp : p ≤ T.length) : T.take p = T ↔ p = T.length := by
  constructor
  · intro h
    have := congrArg List.length h
    rw [List.length_take] at this; omega
  · rintro rfl; exact List.take_length
def q0 (T : List UInt8) : Int × St := nm T (0, false)
def q1 (T : List UInt8) : Int × St := on T (q0 T).2
def q2 (T : List UInt8) : Int × St := nm T (q1 T).2
def q3 (T : List UInt8) (K : Nat) : St × List Ed := edF T K (nm T (q2 T).2).2 []
def oQ (T : List UInt8) (K : Nat) : Or' := ((q0 T).1, (q1 T).1, (q3 T K).2, (q2 T).1)
theorem q_le (T : List UInt8) : (q0 T).2.1 ≤ T.length ∧ (q1 T).2.1 ≤ T.length ∧ (q2 T).2.1 ≤ T.length :=
  have h0 := nm_le (T := T) (s := (0, false)) (Nat.zero_le _)
  ⟨h0, on_le h0, nm_le (on_le h0)⟩
theorem oQ_take {T : List UInt8} {K : Nat} (hK : K = (nm T (q2 T).2).1.toNat) (h : (q3 T K).1.2 = false) : (q3 T K).2.length = K ∧ T.take (q3 T K).1.1 = oT (oQ T K) ∧ (q3 T K).1.1 ≤ T.length := by
  obtain ⟨l0, l1, l2⟩ := q_le T
  obtain ⟨a1, a2, a3⟩ := ed_take l2 hK h
  have a4 := nm_bad a1
  have b2 := nm_take l1 a4
  have a5 := nm_bad a4
  have b1 := on_take a5
  have a6 := on_bad a5
  have b0 := nm_take (Nat.zero_le _) a6
  refine ⟨a2, ?_, (edF_spec T K (nm T (q2 T).2).2 [] (nm_le l2)).1⟩
  have e0 : T.take (q0 T).2.1 = vB (q0 T).1.toNat := by have := b0.1; simp only [List.take_zero, List.nil_append] at this; exact this
  have e1 : T.take (q1 T).2.1 = vB (q0 T).1.toNat ++ [by8 (q1 T).1] := by rw [← e0]; exact b1.1
  have e2 : T.take (q2 T).2.1 = (vB (q0 T).1.toNat ++ [by8 (q1 T).1]) ++ vB (q2 T).1.toNat := by rw [← e1]; exact b2.1
  show T.take (q3 T K).1.1 = ((vB (q0 T).1.toNat ++ [by8 (q1 T).1]) ++ vB (q2 T).1.toNat) ++ eT (q3 T K).2
  rw [← e2]; exact a3
def rdO (n : Int) (T : List UInt8) : Option Or' :=
  let K := (nm T (q2 T).2).1.toNat
  if (q3 T K).1.2 = false ∧ (q3 T K).1.1 = T.length ∧ ordB n (oQ T K) = true then some (oQ T K) else none
theorem rdO_some {n : Int} {T : List UInt8} {o : Or'} (h : rdO n T = some o) : ordB n o = true ∧ oT o = T := by
  unfold rdO at h
  simp only at h
  split at h
  · rename_i hc
    cases h
    have := oQ_take rfl hc.1
    refine ⟨hc.2.2, ?_⟩
    rw [← this.2.1, hc.2.1, List.take_length]
  · cases h
def roR : Option Or' → Int × Int × List Ed × Int × Bool
  | some o => (o.1, o.2.1, o.2.2.1, o.2.2.2, true)
  | none => (0, 0, [], 0, false)
theorem w_iReadOrder (n : Int) (T : List UInt8) (hl : T.length ≤ 1048576) : g_iReadOrder (n, BA T) = some (roR (rdO n T), ()) := by
  obtain ⟨l0, l1, l2⟩ := q_le T
  show f_iReadOrder BIG _ = _
  have r0 : g_ireader_num (BA T, (0 : Int), false) = some ((q0 T).1, (BA T, ((q0 T).2.1 : Int), (q0 T).2.2)) := w_ireader_num T (0, false) (Nat.zero_le _) (by omega)
  have r1 : g_ireader_one (BA T, ((q0 T).2.1 : Int), (q0 T).2.2) = some ((q1 T).1, (BA T, ((q1 T).2.1 : Int), (q1 T).2.2)) := w_ireader_one T (q0 T).2 l0 (by omega)
  have r2 : g_ireader_num (BA T, ((q1 T).2.1 : Int), (q1 T).2.2) = some ((q2 T).1, (BA T, ((q2 T).2.1 : Int), (q2 T).2.2)) := w_ireader_num T (q1 T).2 l1 (by omega)
  have r3 : g_ireader_edges (BA T, ((q2 T).2.1 : Int), (q2 T).2.2) = some ((q3 T (nm T (q2 T).2).1.toNat).2, (BA T, ((q3 T (nm T (q2 T).2).1.toNat).1.1 : Int), (q3 T (nm T (q2 T).2).1.toNat).1.2)) := w_ireader_edges T (q2 T).2 l2 (by omega)
  rw [e_iReadOrder, r0, Option.bind_some]
  simp only [r1, r2, r3, Option.bind_some]
  unfold rdO
  simp only
  generalize hK : (nm T (q2 T).2).1.toNat = K
  have he : ∀ p b, g_ireader_ends (BA T, p, b) = some (!b && decide (p = (T.length : Int)), (BA T, p, b)) := by
    intro p b
    show f_ireader_ends BIG _ = _
    rw [e_ireader_ends]
    cases b <;> rfl
  rw [he]
  simp only [Option.bind_some]
  show (Option.bind (bif !(!(q3 T K).1.2 && decide (((q3 T K).1.1 : Int) = (T.length : Int))) then some true else Option.bind (g_iOrderOk (n, oQ T K)) fun r5 => some !r5.1 : Option Bool) fun x6 =>
    bif x6 then some (((0 : Int), (0 : Int), [], (0 : Int), false), ()) else some (((q0 T).1, (q1 T).1, (q3 T K).2, (q2 T).1, true), ())) = _
  cases hb : (q3 T K).1.2 with
  | true => simp [roR]
  | false =>
    by_cases hp : (q3 T K).1.1 = T.length
    · have hq := oQ_take hK.symm hb
      have hlen : (q3 T K).2.length ≤ 1048576 := by
        have h1 := congrArg List.length hq.2.1
        rw [List.length_take] at h1
        simp only [oT, eT, List.length_append, flat2_len] at h1
        have : (oQ T K).2.2.1 = (q3 T K).2 := rfl
        rw [this] at h1
        omega
      rw [h_iOrderOk n (oQ T K) hlen]
      simp only [hp, decide_true, Bool.not_false, Bool.and_self, Bool.not_true, cond_false, Option.bind_some, true_and]
      cases hO : ordB n (oQ T K) with
      | false => simp [roR]
      | true => simp [roR, oQ]
    · have : decide (((q3 T K).1.1 : Int) = (T.length : Int)) = false := decide_eq_false (by omega)
      simp [this, hp, roR]
theorem w_sReadOrder (n : Int) (T : List UInt8) (hl : T.length ≤ 1048576) : g_sReadOrder (n, BA T) = some (roR (rdO n T), ()) := by
  obtain ⟨l0, l1, l2⟩ := q_le T
  show f_sReadOrder BIG _ = _
  have r0 : g_sl09Var (BA T, (0 : Int), false) = some ((q0 T).1, (BA T, ((q0 T).2.1 : Int), (q0 T).2.2)) := w_sl09Var T (0, false) (Nat.zero_le _) (by omega)
  have r1 : g_sl09One (BA T, ((q0 T).2.1 : Int), (q0 T).2.2) = some ((q1 T).1, (BA T, ((q1 T).2.1 : Int), (q1 T).2.2)) := w_sl09One T (q0 T).2 l0 (by omega)
  have r2 : g_sl09Var (BA T, ((q1 T).2.1 : Int), (q1 T).2.2) = some ((q2 T).1, (BA T, ((q2 T).2.1 : Int), (q2 T).2.2)) := w_sl09Var T (q1 T).2 l1 (by omega)
  have r3 : g_sl09ReadEdges (BA T, ((q2 T).2.1 : Int), (q2 T).2.2) = some ((q3 T (min (nm T (q2 T).2).1.toNat 100)).2, (BA T, ((q3 T (min (nm T (q2 T).2).1.toNat 100)).1.1 : Int), (q3 T (min (nm T (q2 T).2).1.toNat 100)).1.2)) := w_sl09ReadEdges T (q2 T).2 l2 (by omega)
  rw [e_sReadOrder, r0, Option.bind_some]
  simp only [r1, r2, r3, Option.bind_some]
  unfold rdO
  simp only
  generalize hK : (nm T (q2 T).2).1.toNat = K
  have hlen : (q3 T (min K 100)).2.length ≤ 1048576 := by
    have := edF_len T (min K 100) (nm T (q2 T).2).2 []
    have h2 : (q3 T (min K 100)).2.length ≤ 0 + min K 100 := this
    omega
  show (Option.bind (g_sOrderText (n, oQ T (min K 100))) fun r4 => Option.bind (bif (q3 T (min K 100)).1.2 then some true else bif !r4.1.2 then some true else some (!(r4.1.1.toList == (BA T).toList)) : Option Bool) fun x5 =>
    bif x5 then some (((0 : Int), (0 : Int), [], (0 : Int), false), ()) else some (((q0 T).1, (q1 T).1, (q3 T (min K 100)).2, (q2 T).1, true), ())) = _
  rw [w_sOrderText n _ hlen, Option.bind_some]
  by_cases hk : K ≤ 100
  · rw [show min K 100 = K from by omega]
    cases hb : (q3 T K).1.2 with
    | true => simp [roR]
    | false =>
      have hq := oQ_take hK.symm hb
      cases hO : ordB n (oQ T K) with
      | false => simp [roR]
      | true =>
        simp only [if_true, Bool.not_true, cond_false, BA_toList, Option.bind_some, true_and, and_true]
        by_cases hp : (q3 T K).1.1 = T.length
        · have : oT (oQ T K) = T := by rw [← hq.2.1, hp, List.take_length]
          rw [this, beq_self_eq_true, if_pos hp]
          rfl
        · have : ¬ oT (oQ T K) = T := by
            rw [← hq.2.1, take_full hq.2.2]; exact hp
          simp [this, hp, roR, beq_eq_false_iff_ne.2 this]
  · have hbig : ∀ M, 66 < M → (q3 T M).2.length = M → ordB n (oQ T M) = false := by
      intro M hM hl
      cases h : ordB n (oQ T M) with
      | false => rfl
      | true =>
        have := eOk_len (ordB_in h).2.2.2.2.2.2.2.2
        have h2 : (oQ T M).2.2.1 = (q3 T M).2 := rfl
        rw [h2, hl] at this
        omega
    have r1 : (bif (q3 T (min K 100)).1.2 then some true else bif !(if ordB n (oQ T (min K 100)) = true then (BA (oT (oQ T (min K 100))), true) else (BA [], false)).2 then some true else some (!((if ordB n (oQ T (min K 100)) = true then (BA (oT (oQ T (min K 100))), true) else (BA [], false)).1.toList == (BA T).toList)) : Option Bool) = some true := by
      cases hb : (q3 T (min K 100)).1.2 with
      | true => rfl
      | false =>
        obtain ⟨_, h2⟩ := edF_spec T (min K 100) (nm T (q2 T).2).2 [] (nm_le l2)
        obtain ⟨_, es, b2, b3, _⟩ := h2 hb
        have h3 : (q3 T (min K 100)).2.length = min K 100 := by
          show (edF T (min K 100) (nm T (q2 T).2).2 []).2.length = _
          rw [b2]; simpa using b3
        rw [hbig _ (by omega) h3]; rfl
    rw [r1]
    have r2 : ¬ ((q3 T K).1.2 = false ∧ (q3 T K).1.1 = T.length ∧ ordB n (oQ T K) = true) := by
      rintro ⟨hb, _, hO⟩
      have hq := oQ_take hK.symm hb
      rw [hbig K (by omega) hq.1] at hO
      cases hO
    rw [if_neg r2]
    rfl
def lbF (T : List UInt8) : Nat → St → List Int → St × List Int
  | 0, s, out => (s, out)
  | k + 1, s, out => lbF T k (on T s).2 (out ++ [(on T s).1])
def lbG (T : List UInt8) : Nat → St → List Int → St × List Int
  | 0, s, out => (s, out)
  | k + 1, s, out => if s.2 then (s, out) else lbG T k (on T s).2 (out ++ [(on T s).1])
theorem on_stick {T : List UInt8} {s : St} (h : s.2 = true) : (on T s).2.2 = true := by unfold on; rw [if_pos h]
theorem lbF_stick (T : List UInt8) : ∀ (k : Nat) (s : St) (out : List Int), s.2 = true → (lbF T k s out).1.2 = true
  | 0, s, out, h => h
  | k + 1, s, out, h => lbF_stick T k _ _ (on_stick h)
theorem lbG_of (T : List UInt8) : ∀ (k : Nat) (s : St) (out : List Int), ((lbF T k s out).1.2 = false → lbG T k s out = lbF T k s out) ∧ ((lbF T k s out).1.2 = true → (lbG T k s out).1.2 = true)
  | 0, s, out => ⟨fun _ => rfl, fun h => h⟩
  | k + 1, s, out => by
    cases hs : s.2 with
    | true =>
      have := lbF_stick T (k + 1) s out hs
      refine ⟨fun h => (by rw [this] at h; cases h), fun _ => ?_⟩
      unfold lbG
      rw [if_pos hs]; exact hs
    | false =>
      have := lbG_of T k (on T s).2 (out ++ [(on T s).1])
      have e : lbG T (k + 1) s out = lbG T k (on T s).2 (out ++ [(on T s).1]) := by
        show (if s.2 then _ else _) = _
        rw [if_neg (by simp [hs])]
      rw [e]
      exact this
theorem lbF_len (T : List UInt8) : ∀ (k : Nat) (s : St) (out : List Int), (lbF T k s out).2.length = out.length + k
  | 0, s, out => rfl
  | k + 1, s, out => by
    show (lbF T k _ _).2.length = _
    rw [lbF_len T k]; simp; omega
theorem lbG_len (T : List UInt8) : ∀ (k : Nat) (s : St) (out : List Int), (lbG T k s out).2.length ≤ out.length + k
  | 0, s, out => Nat.le_refl _
  | k + 1, s, out => by
    unfold lbG
    split
    · exact Nat.le_add_right _ _
    · have := lbG_len T k (on T s).2 (out ++ [(on T s).1])
      simp at this; omega
theorem lbF_le (T : List UInt8) : ∀ (k : Nat) (s : St) (out : List Int), s.1 ≤ T.length → (lbF T k s out).1.1 ≤ T.length
  | 0, s, out, h => h
  | k + 1, s, out, h => lbF_le T k _ _ (on_le h)
theorem lbF_spec (T : List UInt8) : ∀ (k : Nat) (s : St) (out : List Int), (lbF T k s out).1.2 = false → s.2 = false ∧ ∃ es, (lbF T k s out).2 = out ++ es ∧ es.length = k ∧ T.take (lbF T k s out).1.1 = T.take s.1 ++ es.map by8
  | 0, s, out, h => ⟨h, [], by simp [lbF]⟩
  | k + 1, s, out, h => by
    obtain ⟨b1, es, b2, b3, b4⟩ := lbF_spec T k (on T s).2 (out ++ [(on T s).1]) h
    have c1 := on_take b1
    refine ⟨on_bad b1, (on T s).1 :: es, ?_, by simp [b3], ?_⟩
    · show (lbF T k _ _).2 = _
      rw [b2]; simp
    · show T.take (lbF T k (on T s).2 (out ++ [(on T s).1])).1.1 = _
      rw [b4, c1.1]; simp
theorem lbF_fold (T : List UInt8) {α : Type} : ∀ (l : List α) (s : St × List Int), l.foldl (fun s _ => ((on T s.1).2, s.2 ++ [(on T s.1).1])) s = lbF T l.length s.1 s.2
  | [], s => rfl
  | _ :: l, s => by rw [List.foldl_cons, lbF_fold T l]; rfl
theorem lbLoop (T : List UInt8) {X B : Type} {F : (X → Option B) → X → Option B} (mk : St → List Int → Nat → X) (res : St → List Int → B) (K : Nat)
    (hF : ∀ self (s : St) (out : List Int) (k : Nat), s.1 ≤ T.length → out.length + (k + 1) ≤ K → F self (mk s out (k + 1)) = if s.2 then some (res s out) else self (mk (on T s).2 (out ++ [(on T s).1]) k))
    (hE : ∀ self (s : St) (out : List Int), F self (mk s out 0) = some (res s out)) :
    ∀ (k n : Nat) (s : St) (out : List Int), out.length + k ≤ K → k < n → s.1 ≤ T.length → it F n (mk s out k) = some (res (lbG T k s out).1 (lbG T k s out).2)
  | 0, n, s, out, hk, hn, hs => by
    obtain ⟨m, rfl⟩ : ∃ m, n = m + 1 := ⟨n - 1, by omega⟩
    exact hE _ _ _
  | k + 1, n, s, out, hk, hn, hs => by
    obtain ⟨m, rfl⟩ : ∃ m, n = m + 1 := ⟨n - 1, by omega⟩
    show F (it F m) _ = _
    rw [hF _ _ _ _ hs hk]
    unfold lbG
    split
    · rfl
    · exact lbLoop T mk res K hF hE k m _ _ (by simp; omega) (by omega) (on_le hs)
def q4 (T : List UInt8) (K : Nat) : St × List Ed := edF T K (nm T (q1 T).2).2 []
def q5 (T : List UInt8) (K N : Nat) : St × List Int := lbF T N (q4 T K).1 []
def aQ (T : List UInt8) (K : Nat) (L : List Int) : An := ((q0 T).1, decide ((q1 T).1 = 1), (q4 T K).2, L)
theorem by8_01 {b : Int} (h0 : 0 ≤ b) (h1 : b ≤ 255) : (∃ c, flT c = [by8 b]) ↔ b ≤ 1 := by
  constructor
  · rintro ⟨c, hc⟩
    have := congrArg (fun l : List UInt8 => (l.getD 0 9).toNat) hc
    obtain ⟨n, rfl⟩ : ∃ n : Nat, b = n := ⟨b.toNat, by omega⟩
    simp only [flT, List.getD_cons_zero] at this
    rw [by8_toNat (by omega)] at this
    cases c <;> simp at this <;> omega
  · intro h
    rcases (show b = 0 ∨ b = 1 by omega) with rfl | rfl
    · exact ⟨false, rfl⟩
    · exact ⟨true, rfl⟩
theorem flT_1 {b : Int} (h0 : 0 ≤ b) (h1 : b ≤ 1) : flT (decide (b = 1)) = [by8 b] := by
  rcases (show b = 0 ∨ b = 1 by omega) with rfl | rfl <;> rfl
theorem aQ_take {T : List UInt8} {K N : Nat} (hK : K = (nm T (q1 T).2).1.toNat) (h : (q5 T K N).1.2 = false) : (q4 T K).2.length = K ∧ (q5 T K N).2.length = N ∧ (0 ≤ (q1 T).1 ∧ (q1 T).1 ≤ 255) ∧
    T.take (q5 T K N).1.1 = ((vB (q0 T).1.toNat ++ [by8 (q1 T).1]) ++ eT (q4 T K).2) ++ (q5 T K N).2.map by8 ∧ (q5 T K N).1.1 ≤ T.length := by
  obtain ⟨l0, l1, l2⟩ := q_le T
  obtain ⟨a0, es, c2, c3, c4⟩ := lbF_spec T N (q4 T K).1 [] h
  obtain ⟨a1, a2, a3⟩ := ed_take l1 hK a0
  have a5 := nm_bad a1
  have b1 := on_take a5
  have a6 := on_bad a5
  have b0 := nm_take (Nat.zero_le _) a6
  have e0 : T.take (q0 T).2.1 = vB (q0 T).1.toNat := by have := b0.1; simp only [List.take_zero, List.nil_append] at this; exact this
  have e1 : T.take (q1 T).2.1 = vB (q0 T).1.toNat ++ [by8 (q1 T).1] := by rw [← e0]; exact b1.1
  refine ⟨a2, ?_, ⟨b1.2.1, b1.2.2.1⟩, ?_, lbF_le T N _ _ (edF_spec T K (nm T (q1 T).2).2 [] (nm_le l1)).1⟩
  · rw [show (q5 T K N).2.length = _ from lbF_len T N _ _]; simp
  · rw [← e1]
    have h5 : (q5 T K N).2 = es := by rw [← List.nil_append es]; exact c2
    rw [h5]
    show T.take (lbF T N (q4 T K).1 []).1.1 = _
    rw [c4]
    congr 1
def rdA (n : Int) (T : List UInt8) : Option An :=
  let K := (nm T (q1 T).2).1.toNat
  if inB n 1 12 = true ∧ (q5 T K n.toNat).1.2 = false ∧ (q5 T K n.toNat).1.1 = T.length ∧ (q1 T).1 ≤ 1 ∧ ansB n (aQ T K (q5 T K n.toNat).2) = true then some (aQ T K (q5 T K n.toNat).2) else none
theorem rdA_some {n : Int} {T : List UInt8} {a : An} (h : rdA n T = some a) : ansB n a = true ∧ aT a = T := by
  unfold rdA at h
  simp only at h
  split at h
  · rename_i hc
    cases h
    have := aQ_take rfl hc.2.1
    refine ⟨hc.2.2.2.2, ?_⟩
    conv => rhs; rw [← List.take_length (l := T), ← hc.2.2.1, this.2.2.2.1, ← flT_1 this.2.2.1.1 hc.2.2.2.1]
    rfl
  · cases h
def raR : Option An → Int × Bool × List Ed × List Int × Bool
  | some a => (a.1, a.2.1, a.2.2.1, a.2.2.2, true)
  | none => (0, false, [], [], false)
theorem w_iReadAnswer (n : Int) (T : List UInt8) (hl : T.length ≤ 1048576) : g_iReadAnswer (n, BA T) = some (raR (rdA n T), ()) := by
  obtain ⟨l0, l1, l2⟩ := q_le T
  have hm : maxLen = 9223372036854775807 := by decide
  show f_iReadAnswer BIG _ = _
  have r0 : g_ireader_num (BA T, (0 : Int), false) = some ((q0 T).1, (BA T, ((q0 T).2.1 : Int), (q0 T).2.2)) := w_ireader_num T (0, false) (Nat.zero_le _) (by omega)
  have r1 : g_ireader_one (BA T, ((q0 T).2.1 : Int), (q0 T).2.2) = some ((q1 T).1, (BA T, ((q1 T).2.1 : Int), (q1 T).2.2)) := w_ireader_one T (q0 T).2 l0 (by omega)
  have r3 : g_ireader_edges (BA T, ((q1 T).2.1 : Int), (q1 T).2.2) = some ((q4 T (nm T (q1 T).2).1.toNat).2, (BA T, ((q4 T (nm T (q1 T).2).1.toNat).1.1 : Int), (q4 T (nm T (q1 T).2).1.toNat).1.2)) := w_ireader_edges T (q1 T).2 l1 (by omega)
  rw [e_iReadAnswer, h_iin', Option.bind_some]
  unfold rdA
  cases hn : inB n 1 12 with
  | false => rfl
  | true =>
    rw [inB_t] at hn
    obtain ⟨N, rfl⟩ : ∃ N : Nat, n = N := ⟨n.toNat, by omega⟩
    simp only [Bool.not_true, cond_false, r0, r1, r3, Option.bind_some, Int.toNat_natCast]
    generalize hK : (nm T (q1 T).2).1.toNat = K
    have hle : (q4 T K).1.1 ≤ T.length := by
      have := (edF_spec T K (nm T (q1 T).2).2 [] (nm_le l1)).1
      exact this
    rw [foldG (List.range N) (by simp; omega) (fun (s : St × List Int) i => ((BA T, (s.1.1 : Int), s.1.2), ((q0 T).1, decide ((q1 T).1 = 1), (q4 T K).2, s.2), i)) (fun i s => s.1.1 ≤ T.length ∧ s.2.length = i)
      (fun s _ => ((on T s.1).2, s.2 ++ [(on T s.1).1])) (fun s => ((BA T, (s.1.1 : Int), s.1.2), ((q0 T).1, decide ((q1 T).1 = 1), (q4 T K).2, s.2))) (s0 := ((q4 T K).1, [])) ⟨hle, rfl⟩ (fun i s y _ h => ⟨on_le h.1, by simp [h.2]⟩)]
    · rw [lbF_fold, List.length_range]
      have he : ∀ p b, g_ireader_ends (BA T, p, b) = some (!b && decide (p = (T.length : Int)), (BA T, p, b)) := by
        intro p b
        show f_ireader_ends BIG _ = _
        rw [e_ireader_ends]
        cases b <;> rfl
      simp only [Option.bind_some, he]
      show (Option.bind (bif decide ((1 : Int) < (q1 T).1) then some true else bif !(!(q5 T K N).1.2 && decide (((q5 T K N).1.1 : Int) = (T.length : Int))) then some true else Option.bind (g_iAnswerOk ((N : Int), aQ T K (q5 T K N).2)) fun r9 => some !r9.1 : Option Bool) fun x10 =>
        bif x10 then some (((0 : Int), false, [], [], false), ()) else some (((q0 T).1, decide ((q1 T).1 = 1), (q4 T K).2, (q5 T K N).2, true), ())) = _
      by_cases hb1 : (q1 T).1 ≤ 1
      · rw [decide_eq_false (by omega), cond_false]
        cases hb : (q5 T K N).1.2 with
        | true => simp [raR]
        | false =>
          by_cases hp : (q5 T K N).1.1 = T.length
          · have hq := aQ_take hK.symm hb
            have hlen : (q4 T K).2.length ≤ 1048576 := by
              have h1 := congrArg List.length hq.2.2.2.1
              rw [List.length_take] at h1
              simp only [eT, List.length_append, flat2_len] at h1
              omega
            rw [h_iAnswerOk (N : Int) (aQ T K (q5 T K N).2) hlen (show (q5 T K N).2.length ≤ 1048576 by rw [hq.2.1]; omega)]
            simp only [hp, decide_true, Bool.not_false, Bool.and_self, Bool.not_true, cond_false, Option.bind_some, true_and, hb1]
            cases hO : ansB (N : Int) (aQ T K (q5 T K N).2) with
            | false => simp [raR]
            | true => simp only [and_self, if_true, Bool.not_true, cond_false]; rfl
          · have : decide (((q5 T K N).1.1 : Int) = (T.length : Int)) = false := decide_eq_false (by omega)
            simp [this, hp, raR]
      · rw [decide_eq_true (by omega)]
        simp [hb1, raR]
    · rintro self ⟨s, out⟩ i y hy ⟨h1, h2⟩
      have hi := (List.getElem?_eq_some_iff.1 hy).1
      rw [List.length_range] at hi
      simp only at h1 h2
      simp only [show ((i : Int) < (N : Int)) from by omega, decide_true, cond_true]
      rw [w_ireader_one T s h1 (by omega), Option.bind_some, decide_eq_true (by simp; omega), cond_true, wr1 (by omega)]
    · intro self s _
      simp
theorem w_sReadAnswer (n : Int) (T : List UInt8) (hl : T.length ≤ 1048576) : g_sReadAnswer (n, BA T) = some (raR (rdA n T), ()) := by
  obtain ⟨l0, l1, l2⟩ := q_le T
  have hm : maxLen = 9223372036854775807 := by decide
  show f_sReadAnswer BIG _ = _
  have r0 : g_sl09Var (BA T, (0 : Int), false) = some ((q0 T).1, (BA T, ((q0 T).2.1 : Int), (q0 T).2.2)) := w_sl09Var T (0, false) (Nat.zero_le _) (by omega)
  have r1 : g_sl09One (BA T, ((q0 T).2.1 : Int), (q0 T).2.2) = some ((q1 T).1, (BA T, ((q1 T).2.1 : Int), (q1 T).2.2)) := w_sl09One T (q0 T).2 l0 (by omega)
  have r3 : g_sl09ReadEdges (BA T, ((q1 T).2.1 : Int), (q1 T).2.2) = some ((q4 T (min (nm T (q1 T).2).1.toNat 100)).2, (BA T, ((q4 T (min (nm T (q1 T).2).1.toNat 100)).1.1 : Int), (q4 T (min (nm T (q1 T).2).1.toNat 100)).1.2)) := w_sl09ReadEdges T (q1 T).2 l1 (by omega)
  rw [e_sReadAnswer, r0, Option.bind_some]
  simp only [r1, r3, Option.bind_some]
  unfold rdA
  simp only
  generalize hK : (nm T (q1 T).2).1.toNat = K
  generalize hK' : min K 100 = K'
  generalize hM : min n.toNat 12 = M
  have hle : (q4 T K').1.1 ≤ T.length := by
    have := (edF_spec T K' (nm T (q1 T).2).2 [] (nm_le l1)).1
    exact this
  have L := lbLoop T (F := fun self4 x3 =>
    Option.bind (bif decide (x3.2.2 < n) then
      bif decide (x3.2.2 < (12 : Int)) then
       some !x3.1.2.2
      else some false
     else some false : Option (Bool)) fun x5 =>
    bif x5 then
     Option.bind (g_sl09One x3.1) fun r6 =>
     bif decide (x3.2.1.2.2.2.length + [r6.1].length ≤ 4294967296) then
      self4 (r6.2, (x3.2.1.1, x3.2.1.2.1, x3.2.1.2.2.1, x3.2.1.2.2.2 ++ [r6.1]), IntKind.wrap .i64 (x3.2.2 + (1 : Int)))
     else none
    else some (x3.1, x3.2.1)) (fun s out k => ((BA T, (s.1 : Int), s.2), ((q0 T).1, decide ((q1 T).1 = 1), (q4 T K').2, out), (M : Int) - (k : Int))) (fun s out => ((BA T, (s.1 : Int), s.2), ((q0 T).1, decide ((q1 T).1 = 1), (q4 T K').2, out))) M (by
    intro self s out k hs ho
    simp only [show (M : Int) - ((k + 1 : Nat) : Int) < n from by omega, show (M : Int) - ((k + 1 : Nat) : Int) < 12 from by omega, decide_true, cond_true, Option.bind_some]
    cases hb : s.2 with
    | true => rfl
    | false =>
      simp only [Bool.not_false, cond_true, Bool.false_eq_true, if_false]
      rw [← hb, w_sl09One T s hs (by omega), Option.bind_some, decide_eq_true (by simp; omega), cond_true, wr (by omega) (by omega), show (M : Int) - ((k + 1 : Nat) : Int) + 1 = (M : Int) - (k : Int) from by omega]) (by
    intro self s out
    simp only [Int.natCast_zero, Int.sub_zero]
    by_cases h : (M : Int) < n
    · rw [decide_eq_true h, cond_true, decide_eq_false (by omega)]; rfl
    · rw [decide_eq_false h]; rfl) M BIG (q4 T K').1 [] (by simp) (by simp [BIG]; omega) hle
  rw [show (M : Int) - (M : Int) = 0 from by omega] at L
  unfold loopT
  rw [L, Option.bind_some]
  have hlab := lbG_len T M (q4 T K').1 []
  have hed := edF_len T K' (nm T (q1 T).2).2 []
  have hed' : (q4 T K').2.length ≤ 100 := by
    have : (q4 T K').2.length ≤ 0 + K' := hed
    omega
  generalize hG : lbG T M (q4 T K').1 [] = G at hlab
  simp only [List.length_nil] at hlab
  show (Option.bind (g_sAnswerText (n, aQ T K' G.2)) fun r8 => Option.bind (bif G.1.2 then some true else bif !r8.1.2 then some true else some (!(r8.1.1.toList == (BA T).toList)) : Option Bool) fun x9 =>
    bif x9 then some (((0 : Int), false, [], [], false), ()) else some (((q0 T).1, decide ((q1 T).1 = 1), (q4 T K').2, G.2, true), ())) = _
  rw [w_sAnswerText n (aQ T K' G.2) (show (q4 T K').2.length ≤ 1048576 by omega) (show G.2.length ≤ 1048576 by omega), Option.bind_some]
  have fail : (G.1.2 = true ∨ ansB n (aQ T K' G.2) = false) → (Option.bind (bif G.1.2 then some true else bif !(if ansB n (aQ T K' G.2) = true then (BA (aT (aQ T K' G.2)), true) else (BA [], false)).2 then some true else some (!((if ansB n (aQ T K' G.2) = true then (BA (aT (aQ T K' G.2)), true) else (BA [], false)).1.toList == (BA T).toList)) : Option Bool) fun x9 =>
    bif x9 then some (((0 : Int), false, [], [], false), ()) else some (((q0 T).1, decide ((q1 T).1 = 1), (q4 T K').2, G.2, true), ())) = some (raR none, ()) := by
    rintro (h | h)
    · rw [h]; rfl
    · rw [h]
      cases G.1.2 <;> rfl
  cases hn : inB n 1 12 with
  | false =>
    rw [fail (.inr (by unfold ansB; rw [hn, Bool.false_and])), if_neg (by simp)]
  | true =>
    rw [inB_t] at hn
    obtain ⟨N, rfl⟩ : ∃ N : Nat, n = N := ⟨n.toNat, by omega⟩
    rw [Int.toNat_natCast] at hM ⊢
    have hMN : M = N := by omega
    subst hMN
    have hbig : ∀ L', 66 < (q4 T K').2.length → ansB (M : Int) (aQ T K' L') = false := by
      intro L' h
      cases hO : ansB (M : Int) (aQ T K' L') with
      | false => rfl
      | true =>
        have := eOk_len (ansB_in hO).2.2.2.2.1
        have h2 : (aQ T K' L').2.2.1 = (q4 T K').2 := rfl
        rw [h2] at this
        omega
    obtain ⟨g1, g2⟩ := lbG_of T M (q4 T K').1 []
    by_cases hk : K ≤ 100
    · have : K' = K := by omega
      subst this
      cases hb : (q5 T K' M).1.2 with
      | true =>
        have hGb : G.1.2 = true := by rw [← hG]; exact g2 hb
        rw [fail (.inl hGb), if_neg (by simp)]
      | false =>
        have hGe : G = q5 T K' M := by rw [← hG]; exact g1 hb
        have hq := aQ_take hK.symm hb
        cases hO : ansB (M : Int) (aQ T K' (q5 T K' M).2) with
        | false => rw [fail (.inr (by rw [hGe]; exact hO)), if_neg (by simp)]
        | true =>
          have e1 : (aT (aQ T K' (q5 T K' M).2) = T) ↔ ((q5 T K' M).1.1 = T.length ∧ (q1 T).1 ≤ 1) := by
            constructor
            · intro h
              have hlen := congrArg List.length h
              have hlen2 := congrArg List.length hq.2.2.2.1
              rw [List.length_take] at hlen2
              have hlen3 : (aT (aQ T K' (q5 T K' M).2)).length = (((vB (q0 T).1.toNat ++ [by8 (q1 T).1]) ++ eT (q4 T K').2) ++ (q5 T K' M).2.map by8).length := by
                simp [aT, aQ, flT]
              have hp : (q5 T K' M).1.1 = T.length := by omega
              refine ⟨hp, (by8_01 hq.2.2.1.1 hq.2.2.1.2).1 ⟨decide ((q1 T).1 = 1), ?_⟩⟩
              have h4 := hq.2.2.2.1
              rw [hp, List.take_length] at h4
              have h5 : ((vB (q0 T).1.toNat ++ flT (decide ((q1 T).1 = 1))) ++ eT (q4 T K').2) ++ (q5 T K' M).2.map by8 = ((vB (q0 T).1.toNat ++ [by8 (q1 T).1]) ++ eT (q4 T K').2) ++ (q5 T K' M).2.map by8 := h.trans h4
              exact List.append_cancel_left (List.append_cancel_right (List.append_cancel_right h5))
            · rintro ⟨hp, h1⟩
              have h4 := hq.2.2.2.1
              rw [hp, List.take_length, ← flT_1 hq.2.2.1.1 h1] at h4
              exact h4.symm
          rw [hGe, hb, hO]
          simp only [cond_false, if_true, Bool.not_true, BA_toList, Option.bind_some]
          by_cases hT : aT (aQ T K' (q5 T K' M).2) = T
          · have := e1.1 hT
            rw [hT, beq_self_eq_true, if_pos (by simp [this.1, this.2])]
            rfl
          · rw [beq_eq_false_iff_ne.2 hT, if_neg (fun h => hT (e1.2 ⟨h.2.2.1, h.2.2.2.1⟩))]
            rfl
    · have hK100 : K' = 100 := by omega
      subst hK100
      have e2 : ¬ (true = true ∧ (q5 T K M).1.2 = false ∧ (q5 T K M).1.1 = T.length ∧ (q1 T).1 ≤ 1 ∧ ansB (M : Int) (aQ T K (q5 T K M).2) = true) := by
        rintro ⟨_, hb, _, _, hO⟩
        have hq := aQ_take hK.symm hb
        have := eOk_len (ansB_in hO).2.2.2.2.1
        have h2 : (aQ T K (q5 T K M).2).2.2.1 = (q4 T K).2 := rfl
        rw [h2, hq.1] at this
        omega
      rw [if_neg e2]
      apply fail
      cases hGb : G.1.2 with
      | true => exact .inl rfl
      | false =>
        right
        apply hbig
        have hb5 : (lbF T M (q4 T 100).1 []).1.2 = false := by
          cases h : (lbF T M (q4 T 100).1 []).1.2 with
          | false => rfl
          | true => rw [← hG, g2 h] at hGb; cases hGb
        obtain ⟨hb4, _⟩ := lbF_spec T M (q4 T 100).1 [] hb5
        obtain ⟨_, h2⟩ := edF_spec T 100 (nm T (q1 T).2).2 [] (nm_le l1)
        obtain ⟨_, es, b2, b3, _⟩ := h2 hb4
        show 66 < (edF T 100 (nm T (q1 T).2).2 []).2.length
        rw [b2]; simp [b3]
theorem h_sl05SameEdges (a b : List Ed) (ha : a.length ≤ maxLen) : g_sl05SameEdges (a, b) = some (decide (a = b), ()) := by
  show f_sl05SameEdges BIG _ = _
  rw [e_sl05SameEdges]
  by_cases hl : a.length = b.length
  · rw [decide_eq_true (by omega), Bool.not_true, cond_false, eqLoop a b ha hl false]
    · by_cases h : a = b <;> simp [h]
    · intro self i x y hx hy
      have hi := (List.getElem?_eq_some_iff.1 hx).1
      simp only [show ((i : Int) < (a.length : Int)) from by omega, decide_true, cond_true]
      rw [bnd_nat hi, hx, Option.bind_some, bnd_nat (by omega), hy, Option.bind_some, wr1 (by omega)]
      obtain ⟨x1, x2⟩ := x
      obtain ⟨y1, y2⟩ := y
      by_cases h1 : x1 = y1 <;> by_cases h2 : x2 = y2 <;> simp [h1, h2]
    · intro self
      simp
  · rw [decide_eq_false (by omega), Bool.not_false, cond_true, decide_eq_false (fun h => hl (by rw [h]))]
theorem h_sl05SameInts (a b : List Int) (ha : a.length ≤ maxLen) : g_sl05SameInts (a, b) = some (decide (a = b), ()) := by
  show f_sl05SameInts BIG _ = _
  rw [e_sl05SameInts]
  by_cases hl : a.length = b.length
  · rw [decide_eq_true (by omega), Bool.not_true, cond_false, eqLoop a b ha hl false]
    · by_cases h : a = b <;> simp [h]
    · intro self i x y hx hy
      have hi := (List.getElem?_eq_some_iff.1 hx).1
      simp only [show ((i : Int) < (a.length : Int)) from by omega, decide_true, cond_true]
      rw [bnd_nat hi, hx, Option.bind_some, bnd_nat (by omega), hy, Option.bind_some, wr1 (by omega)]
      by_cases h1 : x = y <;> simp [h1]
    · intro self
      simp
  · rw [decide_eq_false (by omega), Bool.not_false, cond_true, decide_eq_false (fun h => hl (by rw [h]))]
def blA (a : An) : Bool := decide (a.1 = 0) && (!a.2.1 && (decide (a.2.2.1.length = 0) && decide (a.2.2.2.length = 0)))
def blO (o : Or') : Bool := decide (o.1 = 0) && (decide (o.2.1 = 0) && (decide (o.2.2.1.length = 0) && decide (o.2.2.2 = 0)))
def blQ (a b c d : Int) : Bool := decide (a = 0) && (decide (b = 0) && (decide (c = 0) && decide (d = 0)))
theorem len0 {α : Type} (l : List α) : decide ((l.length : Int) = 0) = decide (l.length = 0) := decide_eq_decide.2 (by omega)
theorem h_inoAnswer (a : An) : g_inoAnswer a = some (blA a, ()) := by
  show f_inoAnswer BIG _ = _
  rw [e_inoAnswer, len0, len0]
  unfold blA
  cases decide (a.1 = 0) <;> cases a.2.1 <;> cases decide (a.2.2.1.length = 0) <;> rfl
theorem h_inoOrder (o : Or') : g_inoOrder o = some (blO o, ()) := by
  show f_inoOrder BIG _ = _
  rw [e_inoOrder, len0]
  unfold blO
  cases decide (o.1 = 0) <;> cases decide (o.2.1 = 0) <;> cases decide (o.2.2.1.length = 0) <;> rfl
theorem nil_dec {α : Type} [DecidableEq α] (l : List α) : decide (l = []) = decide (l.length = 0) := decide_eq_decide.2 List.length_eq_zero_iff.symm
theorem h_sl10Blank (a : An) (h1 : a.2.2.1.length ≤ maxLen) (h2 : a.2.2.2.length ≤ maxLen) : g_sl10Blank a = some (blA a, ()) := by
  show f_sl10Blank BIG _ = _
  rw [e_sl10Blank]
  have : g_sl09SameAnswer (a, ((0 : Int), false, [], [])) = f_sl09SameAnswer BIG (a, ((0 : Int), false, [], [])) := rfl
  rw [this, e_sl09SameAnswer]
  dsimp only
  rw [h_sl05SameEdges _ _ h1, h_sl05SameInts _ _ h2, nil_dec, nil_dec]
  unfold blA
  cases decide (a.1 = 0) <;> cases a.2.1 <;> cases decide (a.2.2.1.length = 0) <;> rfl
theorem h_sl13BlankOrder (o : Or') (h1 : o.2.2.1.length ≤ maxLen) : g_sl13BlankOrder o = some (blO o, ()) := by
  show f_sl13BlankOrder BIG _ = _
  rw [e_sl13BlankOrder]
  have : g_sl09SameOrder (o, ((0 : Int), (0 : Int), [], (0 : Int))) = f_sl09SameOrder BIG (o, ((0 : Int), (0 : Int), [], (0 : Int))) := rfl
  rw [this, e_sl09SameOrder]
  dsimp only
  rw [h_sl05SameEdges _ _ h1, nil_dec]
  unfold blO
  cases decide (o.1 = 0) <;> cases decide (o.2.1 = 0) <;> cases decide (o.2.2.1.length = 0) <;> cases decide (o.2.2.2 = 0) <;> rfl
theorem h_sl13BlankAsk (a b c d : Int) : g_sl13BlankAsk (a, b, c, d) = some (blQ a b c d, ()) := by
  show f_sl13BlankAsk BIG _ = _
  rw [e_sl13BlankAsk]
  unfold blQ
  simp only [Bool.and_true]
def stA (s : List UInt8) (y : Int) : Option (List UInt8) := if inB y 0 100000 then some (s ++ vB y.toNat) else none
theorem h_iaskText (a b c d : Int) : g_iaskText (a, b, c, d) = some (match fM stA [] [a, b, c, d] with | some s => (BA s, true) | none => (BA [], false), ()) := by
  have hm : maxLen = 9223372036854775807 := by decide
  show f_iaskText BIG _ = _
  rw [e_iaskText]
  dsimp only
  have h5 : ∀ y : Int, inB y 0 100000 = true → (vB y.toNat).length ≤ 5 := fun y hy => vB_len (by rw [inB_t] at hy; omega)
  have L := exitG [a, b, c, d] (by simp) (F := fun self1 x0 =>
    bif decide (x0.2 < (([a, b, c, d]).length : Int)) then
     bnd ([a, b, c, d]).length x0.2 fun n2 =>
     Option.bind ([a, b, c, d])[n2]? fun y3 =>
     Option.bind (g_iin (y3, (0 : Int), (100000 : Int))) fun r4 =>
     bif !r4.1 then
      some (Sum.inr ((ByteArray.mk #[]), false))
     else Option.bind (g_iVarText y3) fun r5 =>
     bif decide (x0.1.size + r5.1.1.size ≤ 4611686018427387904) then
      self1 (x0.1 ++ r5.1.1, IntKind.wrap .i64 (x0.2 + (1 : Int)))
     else none
    else some (Sum.inl x0.1)) (fun (s : List UInt8) i => (BA s, i)) (fun i s => s.length ≤ 5 * i) stA BA ((ByteArray.mk #[]), false) (s0 := []) (by simp) (fun i s s' y _ h hs => by
      unfold stA at hs
      split at hs
      · rename_i hy
        cases hs
        have := h5 y hy
        simp; omega
      · cases hs) (by
    intro self s i y hy hs
    have hi := (List.getElem?_eq_some_iff.1 hy).1
    have hi4 : i < 4 := hi
    simp only [show ((i : Int) < (([a, b, c, d]).length : Int)) from by omega, decide_true, cond_true]
    rw [bnd_nat hi, hy, Option.bind_some, h_iin', Option.bind_some, wr1 (by omega)]
    unfold stA
    cases hb : inB y 0 100000 with
    | false => rfl
    | true =>
      have := h5 y hb
      rw [inB_t] at hb
      simp only [Bool.not_true, cond_false, if_true, w_iVarText, Option.bind_some]
      rw [show inB y 0 1000000000 = true from inB_t.2 (by omega), if_pos rfl, BA_app, BA_size, BA_size, decide_eq_true (by omega)]
      rfl) (by
    intro self s _
    simp)
  have L' : loopT BIG _ ((ByteArray.mk #[]), (0 : Int)) = _ := L
  rw [L']
  cases fM stA [] [a, b, c, d] <;> rfl
theorem stA_all (a b c d : Int) : fM stA [] [a, b, c, d] = if inB a 0 100000 && (inB b 0 100000 && (inB c 0 100000 && inB d 0 100000)) then some (((vB a.toNat ++ vB b.toNat) ++ vB c.toNat) ++ vB d.toNat) else none := by
  simp only [fM, stA]
  cases inB a 0 100000 <;> cases inB b 0 100000 <;> cases inB c 0 100000 <;> cases inB d 0 100000 <;> simp
abbrev Rc := Int × Int × Int × Int × Int × Int × Int × Bool × List (Int × Int) × List Int × Int × Int × List (Int × Int) × Int
def rcT (n : Int) (r : Rc) : Option (List UInt8) :=
  let an : An := (r.2.2.2.2.2.2.1, r.2.2.2.2.2.2.2.1, r.2.2.2.2.2.2.2.2.1, r.2.2.2.2.2.2.2.2.2.1)
  let o : Or' := r.2.2.2.2.2.2.2.2.2.2
  let sh := r.2.2.2.2.2.1
  if r.1 = 1 then
    if (decide (sh = 0) && (blA an && blO o)) && (inB r.2.1 0 100000 && (inB r.2.2.1 0 100000 && (inB r.2.2.2.1 0 100000 && inB r.2.2.2.2.1 0 100000))) then
      some ([1] ++ (((vB r.2.1.toNat ++ vB r.2.2.1.toNat) ++ vB r.2.2.2.1.toNat) ++ vB r.2.2.2.2.1.toNat)) else none
  else if r.1 = 2 then
    if (blQ r.2.1 r.2.2.1 r.2.2.2.1 r.2.2.2.2.1 && (blO o && inB sh 0 100000)) && ansB n an then some ([2] ++ (vB sh.toNat ++ (vB (aT an).length ++ aT an))) else none
  else if r.1 = 3 then
    if (blQ r.2.1 r.2.2.1 r.2.2.2.1 r.2.2.2.2.1 && (decide (sh = 0) && blA an)) && ordB n o then some ([3] ++ (vB (oT o).length ++ oT o)) else none
  else none
def rcR : Option (List UInt8) → ByteArray × Bool
  | some s => (BA s, true)
  | none => (BA [], false)
theorem h_iShortText (s : List UInt8) (h : s.length ≤ 300) : g_iShortText (BA s) = some ((BA (vB s.length ++ s), true), ()) := by
  show f_iShortText BIG _ = _
  have := vB_len (v := s.length) (by omega)
  rw [e_iShortText, BA_size, decide_eq_false (by omega), cond_false, w_iVarText, show inB (s.length : Int) 0 1000000000 = true from inB_t.2 (by omega), if_pos rfl, Option.bind_some, Int.toNat_natCast]
  simp only [BA_size, BA_app]
  rw [decide_eq_true (by omega)]; rfl
theorem askEq (a b c d : Int) : (decide (a = 0) && (decide (b = 0) && (decide (c = 0) && (decide (d = 0) && true)))) = blQ a b c d := by simp [blQ]
theorem rcT_len {n : Int} {r : Rc} {s : List UInt8} (h : rcT n r = some s) : 1 ≤ s.length ∧ s.length ≤ 400 := by
  unfold rcT at h
  simp only at h
  split at h
  · split at h
    · rename_i hc
      cases h
      simp only [Bool.and_eq_true, inB_t] at hc
      have h1 := vB_len (v := r.2.1.toNat) (by omega)
      have h2 := vB_len (v := r.2.2.1.toNat) (by omega)
      have h3 := vB_len (v := r.2.2.2.1.toNat) (by omega)
      have h4 := vB_len (v := r.2.2.2.2.1.toNat) (by omega)
      simp only [List.length_append, List.length_cons, List.length_nil]; omega
    · cases h
  · split at h
    · split at h
      · rename_i hc
        cases h
        simp only [Bool.and_eq_true, inB_t] at hc
        have h1 := aT_len hc.2
        have h2 := vB_len (v := r.2.2.2.2.2.1.toNat) (by omega)
        have h3 := vB_len (v := (aT (r.2.2.2.2.2.2.1, r.2.2.2.2.2.2.2.1, r.2.2.2.2.2.2.2.2.1, r.2.2.2.2.2.2.2.2.2.1)).length) (by omega)
        simp only [List.length_append, List.length_cons, List.length_nil]; omega
      · cases h
    · split at h
      · split at h
        · rename_i hc
          cases h
          simp only [Bool.and_eq_true, inB_t] at hc
          have h1 := oT_len hc.2
          have h3 := vB_len (v := (oT r.2.2.2.2.2.2.2.2.2.2).length) (by omega)
          simp only [List.length_append, List.length_cons, List.length_nil]; omega
        · cases h
      · cases h
theorem w_iRecText (n : Int) (r : Rc) (h1 : r.2.2.2.2.2.2.2.2.1.length ≤ 1048576) (h2 : r.2.2.2.2.2.2.2.2.2.1.length ≤ 1048576) (h3 : r.2.2.2.2.2.2.2.2.2.2.2.2.1.length ≤ 1048576) : g_iRecText (n, r) = some (rcR (rcT n r), ()) := by
  obtain ⟨k, a, b, c, d, sh, an0, an1, an2, an3, o⟩ := r
  simp only at h1 h2 h3
  show f_iRecText BIG _ = _
  rw [e_iRecText]
  dsimp only
  rw [h_inoAnswer (an0, an1, an2, an3), h_inoOrder o, h_iaskText, h_iin', askEq, stA_all]
  have w1 := w_iAnswerText n (an0, an1, an2, an3) h1 h2
  have w2 := w_iOrderText n o h3
  rw [w1, w2]
  have hl := @rcT_len n (k, a, b, c, d, sh, an0, an1, an2, an3, o)
  unfold rcT at hl ⊢
  simp only at hl ⊢
  simp only [Option.bind_some]
  by_cases k1 : k = 1
  · subst k1
    simp only [decide_true, cond_true, if_true] at hl ⊢
    rw [by_1]
    cases hs : decide (sh = 0) with
    | false => simp [rcR] <;> rfl
    | true =>
      cases hA : blA (an0, an1, an2, an3) with
      | false => simp [rcR] <;> rfl
      | true =>
        cases hO : blO o with
        | false => simp [rcR] <;> rfl
        | true =>
          cases hq : (inB a 0 100000 && (inB b 0 100000 && (inB c 0 100000 && inB d 0 100000))) with
          | false => simp [rcR] <;> rfl
          | true =>
            rw [hs, hA, hO, hq] at hl
            have := hl rfl
            simp only [cond_true, if_true, Option.bind_some, Bool.not_true, cond_false, Bool.and_self]
            rw [BA_app, BA_size, BA_size, decide_eq_true (by simp only [List.length_append, List.length_cons, List.length_nil] at this ⊢; omega)]
            rfl
  · simp only [k1, decide_false, cond_false, if_false, Option.bind_some] at hl ⊢
    by_cases k2 : k = 2
    · subst k2
      simp only [decide_true, cond_true, if_true] at hl ⊢
      rw [by_1]
      cases hQ : blQ a b c d with
      | false => simp [rcR] <;> rfl
      | true =>
        cases hO : blO o with
        | false => simp [rcR] <;> rfl
        | true =>
          cases hs : inB sh 0 100000 with
          | false => simp [rcR] <;> rfl
          | true =>
            cases hA : ansB n (an0, an1, an2, an3) with
            | false =>
              simp only [cond_true, Option.bind_some, if_false, Bool.false_eq_true, h_iShortText [] (by simp), w_iVarText, BA_size, Bool.and_false]
              rw [inB_t] at hs
              rw [show inB sh 0 1000000000 = true from inB_t.2 (by omega), if_pos rfl]
              have := vB_len (v := sh.toNat) (by omega)
              simp only [BA_app, BA_size]
              rw [decide_eq_true (by simp [vB_lo]; omega)]
              simp [rcR] <;> rfl
            | true =>
              rw [hQ, hO, hs, hA] at hl
              have := hl rfl
              have hal := aT_len hA
              rw [inB_t] at hs
              simp only [cond_true, Option.bind_some, if_true, h_iShortText _ hal, w_iVarText, Bool.and_self]
              rw [show inB sh 0 1000000000 = true from inB_t.2 (by omega), if_pos rfl]
              simp only [BA_app, BA_size, List.length_append, List.length_cons, List.length_nil] at this ⊢
              rw [decide_eq_true (by omega)]
              simp only [cond_true, Option.bind_some, Bool.not_true, cond_false, BA_size, BA_app, List.length_append, List.length_cons, List.length_nil]
              rw [decide_eq_true (by omega)]
              rfl
    · simp only [k2, decide_false, cond_false, if_false, Option.bind_some] at hl ⊢
      by_cases k3 : k = 3
      · subst k3
        simp only [decide_true, cond_true, if_true] at hl ⊢
        rw [by_1]
        cases hQ : blQ a b c d with
        | false => simp [rcR] <;> rfl
        | true =>
          cases hs : decide (sh = 0) with
          | false => simp [rcR] <;> rfl
          | true =>
            cases hA : blA (an0, an1, an2, an3) with
            | false => simp [rcR] <;> rfl
            | true =>
              cases hO : ordB n o with
              | false =>
                simp only [cond_true, Option.bind_some, if_false, Bool.false_eq_true, h_iShortText [] (by simp), Bool.and_false]
                simp [rcR] <;> rfl
              | true =>
                rw [hQ, hs, hA, hO] at hl
                have := hl rfl
                have hal := oT_len hO
                simp only [cond_true, Option.bind_some, if_true, h_iShortText _ hal, Bool.and_self, Bool.not_true, cond_false, BA_size, BA_app, List.length_append, List.length_cons, List.length_nil] at this ⊢
                rw [decide_eq_true (by omega)]
                rfl
      · simp only [k3, decide_false, cond_false, if_false, Option.bind_some]
        rfl
theorem bk1 : ByteArray.mk #[1] = BA [1] := by rfl
theorem bk2 : ByteArray.mk #[2] = BA [2] := by rfl
theorem bk3 : ByteArray.mk #[3] = BA [3] := by rfl
theorem w_sRecText (n : Int) (r : Rc) (h1 : r.2.2.2.2.2.2.2.2.1.length ≤ 1048576) (h2 : r.2.2.2.2.2.2.2.2.2.1.length ≤ 1048576) (h3 : r.2.2.2.2.2.2.2.2.2.2.2.2.1.length ≤ 1048576) : g_sRecText (n, r) = some (rcR (rcT n r), ()) := by
  obtain ⟨k, a, b, c, d, sh, an0, an1, an2, an3, o⟩ := r
  simp only at h1 h2 h3
  have hm : maxLen = 9223372036854775807 := by decide
  show f_sRecText BIG _ = _
  rw [e_sRecText]
  dsimp only
  simp only [bk1, bk2, bk3]
  rw [h_sl10Blank (an0, an1, an2, an3) (by simp only; omega) (by simp only; omega), h_sl13BlankOrder o (by omega), h_sl13BlankAsk]
  simp only [h_sl01In']
  rw [w_sAnswerText n (an0, an1, an2, an3) h1 h2, w_sOrderText n o h3]
  unfold rcT
  simp only [Option.bind_some]
  by_cases k1 : k = 1
  · subst k1
    simp only [decide_true, cond_true, if_true]
    cases hs : decide (sh = 0) with
    | false => simp [rcR] <;> rfl
    | true =>
      cases hA : blA (an0, an1, an2, an3) with
      | false => simp [rcR] <;> rfl
      | true =>
        cases hO : blO o with
        | false => simp [rcR] <;> rfl
        | true =>
          cases qa : inB a 0 100000 with
          | false => simp [rcR] <;> rfl
          | true =>
            cases qb : inB b 0 100000 with
            | false => simp [rcR] <;> rfl
            | true =>
              cases qc : inB c 0 100000 with
              | false => simp [rcR] <;> rfl
              | true =>
                cases qd : inB d 0 100000 with
                | false => simp [rcR] <;> rfl
                | true =>
                  rw [inB_t] at qa qb qc qd
                  have wa := w_sl01Var a.toNat (by omega)
                  have wb := w_sl01Var b.toNat (by omega)
                  have wc := w_sl01Var c.toNat (by omega)
                  have wd := w_sl01Var d.toNat (by omega)
                  rw [Int.toNat_of_nonneg (by omega)] at wa wb wc wd
                  have la := vB_len (v := a.toNat) (by omega)
                  have lb := vB_len (v := b.toNat) (by omega)
                  have lc := vB_len (v := c.toNat) (by omega)
                  have ld := vB_len (v := d.toNat) (by omega)
                  simp only [cond_true, if_true, Option.bind_some, Bool.not_true, cond_false, Bool.and_self, wa, wb, wc, wd, by_1, BA_app, BA_size, List.length_append, List.length_cons, List.length_nil]
                  rw [decide_eq_true (by omega), decide_eq_true (by omega), decide_eq_true (by omega), decide_eq_true (by omega)]
                  simp [rcR]
  · simp only [k1, decide_false, cond_false, if_false, Option.bind_some]
    by_cases k2 : k = 2
    · subst k2
      simp only [decide_true, cond_true, if_true]
      cases hQ : blQ a b c d with
      | false => cases hA : ansB n (an0, an1, an2, an3) <;> simp [rcR] <;> rfl
      | true =>
        cases hO : blO o with
        | false => cases hA : ansB n (an0, an1, an2, an3) <;> simp [rcR] <;> rfl
        | true =>
          cases hs : inB sh 0 100000 with
          | false => cases hA : ansB n (an0, an1, an2, an3) <;> simp [rcR] <;> rfl
          | true =>
            cases hA : ansB n (an0, an1, an2, an3) with
            | false => simp [rcR] <;> rfl
            | true =>
              have hal := aT_len hA
              rw [inB_t] at hs
              have wa := w_sl01Var sh.toNat (by omega)
              rw [Int.toNat_of_nonneg (by omega)] at wa
              have wb := w_sl01Var (aT (an0, an1, an2, an3)).length (by omega)
              have la := vB_len (v := sh.toNat) (by omega)
              have lb := vB_len (v := (aT (an0, an1, an2, an3)).length) (by omega)
              simp only [cond_true, if_true, Option.bind_some, Bool.not_true, cond_false, Bool.and_self, wa, wb, by_1, BA_app, BA_size, List.length_append, List.length_cons, List.length_nil]
              rw [decide_eq_true (by omega), decide_eq_true (by omega), decide_eq_true (by omega)]
              simp [rcR]
    · simp only [k2, decide_false, cond_false, if_false, Option.bind_some]
      by_cases k3 : k = 3
      · subst k3
        simp only [decide_true, cond_true, if_true]
        cases hO : ordB n o with
        | false => simp [rcR] <;> rfl
        | true =>
          cases hQ : blQ a b c d with
          | false => simp [rcR] <;> rfl
          | true =>
            cases hA : blA (an0, an1, an2, an3) with
            | false => simp [rcR] <;> rfl
            | true =>
              cases hs : decide (sh = 0) with
              | false => simp [rcR] <;> rfl
              | true =>
                have hal := oT_len hO
                have wb := w_sl01Var (oT o).length (by omega)
                have lb := vB_len (v := (oT o).length) (by omega)
                simp only [cond_true, if_true, Option.bind_some, Bool.not_true, cond_false, Bool.and_self, wb, by_1, BA_app, BA_size, List.length_append, List.length_cons, List.length_nil]
                rw [decide_eq_true (by omega), decide_eq_true (by omega)]
                simp [rcR]
      · simp only [k3, decide_false, cond_false, if_false, Option.bind_some]
        rfl
def tkS (T : List UInt8) (s : St) (v : Int) : List UInt8 × St :=
  if s.2 = true ∨ (T.length : Int) - (s.1 : Int) < v then ([], (s.1, true)) else ((T.drop s.1).take v.toNat, (s.1 + v.toNat, false))
def shS (T : List UInt8) (s : St) : List UInt8 × St := tkS T (nm T s).2 (nm T s).1
def shI (T : List UInt8) (s : St) : List UInt8 × St :=
  if s.2 = true then ([], (s.1, true)) else match rdV (T.drop s.1) with
  | some (v, m) => if 20000 < v ∨ T.length - (s.1 + m) < v then ([], (s.1, true)) else ((T.drop (s.1 + m)).take v, (s.1 + m + v, false))
  | none => ([], (s.1, true))
theorem shS_spec {T : List UInt8} {s : St} (hs : s.1 ≤ T.length) (h : (shS T s).2.2 = false) :
    s.2 = false ∧ (shS T s).2.1 ≤ T.length ∧ T.take (shS T s).2.1 = T.take s.1 ++ (vB (shS T s).1.length ++ (shS T s).1) := by
  have hle := nm_le hs
  have hnn := nm_nn T s
  unfold shS tkS at h ⊢
  split at h
  · cases h
  · rename_i hc
    rw [if_neg hc]
    have h2 : (nm T s).2.2 = false := by cases hx : (nm T s).2.2 <;> simp [hx] at hc ⊢
    have h3 : ¬ (T.length : Int) - ((nm T s).2.1 : Int) < (nm T s).1 := fun hx => hc (Or.inr hx)
    obtain ⟨t1, t2, t3⟩ := nm_take hs h2
    refine ⟨nm_bad h2, (by simp only; omega), ?_⟩
    simp only
    rw [List.length_take, List.length_drop, List.take_add, t1, show min (nm T s).1.toNat (T.length - (nm T s).2.1) = (nm T s).1.toNat from by omega, List.append_assoc]
theorem sh_eq {T : List UInt8} {s : St} (hs : s.1 ≤ T.length) : ((shS T s).2.2 = false → (shS T s).1.length ≤ 20000 → shI T s = shS T s) ∧ ((shS T s).2.2 = false → ¬ (shS T s).1.length ≤ 20000 → (shI T s).2.2 = true) ∧ ((shS T s).2.2 = true → (shI T s).2.2 = true) := by
  unfold shS shI tkS nm
  cases hb : s.2 with
  | true => simp
  | false =>
    simp only [Bool.false_eq_true, if_false]
    cases hr : rdV (T.drop s.1) with
    | none => simp
    | some x =>
      obtain ⟨v, m⟩ := x
      have := rdV_in hr
      rw [List.length_drop] at this
      simp only [false_or]
      by_cases h1 : T.length - (s.1 + m) < v
      · have : (T.length : Int) - ((s.1 + m : Nat) : Int) < (v : Int) := by omega
        rw [if_pos (Or.inr this), if_pos (Or.inr h1)]
        exact ⟨fun h => (by cases h), fun h => (by cases h), fun _ => rfl⟩
      · have h2 : ¬ (T.length : Int) - ((s.1 + m : Nat) : Int) < (v : Int) := by omega
        rw [if_neg (by simp; omega)]
        by_cases h3 : 20000 < v
        · rw [if_pos (Or.inl h3)]
          refine ⟨?_, fun _ _ => rfl, fun h => by cases h⟩
          intro _ h4
          simp only [List.length_take, List.length_drop, Int.toNat_natCast] at h4
          omega
        · rw [if_neg (by omega)]
          refine ⟨fun _ _ => by simp, ?_, fun h => by cases h⟩
          intro _ h4
          simp only [List.length_take, List.length_drop, Int.toNat_natCast] at h4
          omega
theorem w_sl09Take (T : List UInt8) (s : St) (hs : s.1 ≤ T.length) (hl : T.length ≤ 2097152) (v : Int) (h0 : 0 ≤ v) (h1 : v ≤ 1000000000) : g_sl09Take ((BA T, (s.1 : Int), s.2), v) = some (BA (tkS T s v).1, (BA T, ((tkS T s v).2.1 : Int), (tkS T s v).2.2)) := by
  show f_sl09Take BIG _ = _
  rw [e_sl09Take]
  dsimp only
  rw [BA_size]
  unfold tkS
  cases hb : s.2 with
  | true => simp [BA]
  | false =>
    simp only [cond_false, Option.bind_some, Bool.false_eq_true, false_or]
    rw [wr (n := (T.length : Int) - (s.1 : Int)) (by omega) (by omega)]
    by_cases h : (T.length : Int) - (s.1 : Int) < v
    · rw [decide_eq_true h, if_pos h]; rfl
    · rw [decide_eq_false h, if_neg h, cond_false, wr (n := (s.1 : Int) + v) (by omega) (by omega), wr (n := (s.1 : Int) + v - v) (by omega) (by omega), decide_eq_true (by omega)]
      simp only [cond_true, BA_ext]
      rw [show ((s.1 : Int) + v - v).toNat = s.1 from by omega, show ((s.1 : Int) + v).toNat = s.1 + v.toNat from by omega, show s.1 + v.toNat - s.1 = v.toNat from by omega, show ((s.1 + v.toNat : Nat) : Int) = (s.1 : Int) + v from by omega]
theorem w_ireader_short (T : List UInt8) (s : St) (hs : s.1 ≤ T.length) (hl : T.length ≤ 2097152) : g_ireader_short (BA T, (s.1 : Int), s.2) = some (BA (shI T s).1, (BA T, ((shI T s).2.1 : Int), (shI T s).2.2)) := by
  show f_ireader_short BIG _ = _
  rw [e_ireader_short]
  dsimp only
  have he : g_iReadShort (BA T, (s.1 : Int)) = f_iReadShort BIG (BA T, (s.1 : Int)) := rfl
  rw [he, e_iReadShort, w_iReadVar T _ hl, BA_size]
  unfold rvR shI
  rw [show inB (s.1 : Int) 0 (T.length : Int) = true from inB_t.2 (by omega), if_pos rfl, Int.toNat_natCast]
  cases hr : rdV (T.drop s.1) with
  | none => cases s.2 <;> rfl
  | some x =>
    obtain ⟨v, m⟩ := x
    have := rdV_in hr
    rw [List.length_drop] at this
    simp only [Option.bind_some, Bool.not_true, cond_false]
    rw [wr (n := (T.length : Int) - ((s.1 : Int) + (m : Int))) (by omega) (by omega), wr (n := (s.1 : Int) + (m : Int) + (v : Int)) (by omega) (by omega)]
    by_cases h1 : 20000 < v
    · rw [decide_eq_true (by omega)]
      simp only [cond_true, Option.bind_some, h1, true_or, if_true]
      cases s.2 <;> rfl
    · rw [decide_eq_false (by omega)]
      simp only [cond_false, Option.bind_some, h1, false_or]
      by_cases h2 : T.length - (s.1 + m) < v
      · rw [decide_eq_true (by omega)]
        simp only [cond_true, Option.bind_some, h2, if_true]
        cases s.2 <;> rfl
      · rw [decide_eq_false (by omega), cond_false, decide_eq_true (by omega), cond_true, if_neg h2, BA_ext]
        rw [show ((s.1 : Int) + (m : Int) + (v : Int)).toNat = s.1 + m + v from by omega, show ((s.1 : Int) + (m : Int)).toNat = s.1 + m from by omega, show s.1 + m + v - (s.1 + m) = v from by omega]
        cases s.2 <;> simp <;> first | rfl | omega
def rrR : Option Rc → Int × Int × Int × Int × Int × Int × Int × Bool × List (Int × Int) × List Int × Int × Int × List (Int × Int) × Int × Bool
  | some r => (r.1, r.2.1, r.2.2.1, r.2.2.2.1, r.2.2.2.2.1, r.2.2.2.2.2.1, r.2.2.2.2.2.2.1, r.2.2.2.2.2.2.2.1, r.2.2.2.2.2.2.2.2.1, r.2.2.2.2.2.2.2.2.2.1, r.2.2.2.2.2.2.2.2.2.2.1, r.2.2.2.2.2.2.2.2.2.2.2.1, r.2.2.2.2.2.2.2.2.2.2.2.2.1, r.2.2.2.2.2.2.2.2.2.2.2.2.2, true)
  | none => (0, 0, 0, 0, 0, 0, 0, false, [], [], 0, 0, [], 0, false)
def mkA (k sh : Int) (x : Int × Bool × List Ed × List Int × Bool) : Rc := (k, 0, 0, 0, 0, sh, x.1, x.2.1, x.2.2.1, x.2.2.2.1, 0, 0, [], 0)
def mkO (k : Int) (x : Int × Int × List Ed × Int × Bool) : Rc := (k, 0, 0, 0, 0, 0, 0, false, [], [], x.1, x.2.1, x.2.2.1, x.2.2.2.1)
def lenOk (r : Rc) : Prop := r.2.2.2.2.2.2.2.2.1.length ≤ 100 ∧ r.2.2.2.2.2.2.2.2.2.1.length ≤ 100 ∧ r.2.2.2.2.2.2.2.2.2.2.2.2.1.length ≤ 100
theorem lenA (n k sh : Int) (U : List UInt8) : lenOk (mkA k sh (raR (rdA n U))) := by
  cases h : rdA n U with
  | none => simp [mkA, raR, lenOk]
  | some a =>
    have := ansB_in (rdA_some h).1
    have h2 := eOk_len this.2.2.2.2.1
    exact ⟨by simp only [mkA, raR]; omega, by simp only [mkA, raR]; omega, by simp [mkA]⟩
theorem lenO (n k : Int) (U : List UInt8) : lenOk (mkO k (roR (rdO n U))) := by
  cases h : rdO n U with
  | none => simp [mkO, roR, lenOk]
  | some a =>
    have := ordB_in (rdO_some h).1
    have h2 := eOk_len this.2.2.2.2.2.2.2.2
    exact ⟨by simp [mkO], by simp [mkO], by simp only [mkO, roR]; omega⟩
theorem iTail (n : Int) (T : List UInt8) (s : St) (r : Rc) (fine : Bool) (h : lenOk r) :
    (Option.bind (g_iRecText (n, r)) fun r11 =>
      Option.bind (bif !fine then some true
       else Option.bind (g_ireader_ends (BA T, (s.1 : Int), s.2)) fun r12 =>
       bif !r12.1 then some true
       else bif !r11.1.2 then some true
       else some (!(r11.1.1.toList == (BA T).toList)) : Option (Bool)) fun x13 =>
      bif x13 then some (((0 : Int), (0 : Int), (0 : Int), (0 : Int), (0 : Int), (0 : Int), (0 : Int), false, ([] : List (Int × Int)), ([] : List Int), (0 : Int), (0 : Int), ([] : List (Int × Int)), (0 : Int), false), ())
      else some (rrR (some r), ())) = some (rrR (if fine = true ∧ s.2 = false ∧ s.1 = T.length ∧ rcT n r = some T then some r else none), ()) := by
  rw [w_iRecText n r (by have := h.1; omega) (by have := h.2.1; omega) (by have := h.2.2; omega)]
  have he : ∀ p b, g_ireader_ends (BA T, p, b) = some (!b && decide (p = (T.length : Int)), (BA T, p, b)) := by
    intro p b
    show f_ireader_ends BIG _ = _
    rw [e_ireader_ends]
    cases b <;> rfl
  rw [he]
  simp only [Option.bind_some]
  cases fine with
  | false => rfl
  | true =>
    cases hb : s.2 with
    | true => rfl
    | false =>
      by_cases hp : s.1 = T.length
      · cases hr : rcT n r with
        | none => simp [hp, rcR, rrR]
        | some t =>
          simp only [hp, rcR, BA_toList]
          by_cases ht : t = T
          · simp [ht, rrR]
          · have hb : (t == T) = false := beq_eq_false_iff_ne.2 ht
            simp [hb, ht, rrR]
      · have : decide ((s.1 : Int) = (T.length : Int)) = false := decide_eq_false (by omega)
        simp [this, hp, rrR]
theorem sTail (n : Int) (T : List UInt8) (s : St) (r : Rc) (h : lenOk r) :
    (Option.bind (g_sRecText (n, r)) fun r11 =>
      Option.bind (bif s.2 then some true
       else bif !r11.1.2 then some true
       else some (!(r11.1.1.toList == (BA T).toList)) : Option (Bool)) fun x13 =>
      bif x13 then some (((0 : Int), (0 : Int), (0 : Int), (0 : Int), (0 : Int), (0 : Int), (0 : Int), false, ([] : List (Int × Int)), ([] : List Int), (0 : Int), (0 : Int), ([] : List (Int × Int)), (0 : Int), false), ())
      else some (rrR (some r), ())) = some (rrR (if s.2 = false ∧ rcT n r = some T then some r else none), ()) := by
  rw [w_sRecText n r (by have := h.1; omega) (by have := h.2.1; omega) (by have := h.2.2; omega)]
  simp only [Option.bind_some]
  cases hb : s.2 with
  | true => rfl
  | false =>
    cases hr : rcT n r with
    | none => simp [rcR, rrR]
    | some t =>
      simp only [rcR, BA_toList]
      by_cases ht : t = T
      · simp [ht, rrR]
      · have hb : (t == T) = false := beq_eq_false_iff_ne.2 ht
        simp [hb, ht, rrR]
def rcS (n : Int) (T : List UInt8) : St × Rc :=
  let p := on T (0, false)
  if p.1 = 1 then
    let a := nm T p.2; let b := nm T a.2; let c := nm T b.2; let d := nm T c.2
    (d.2, (p.1, a.1, b.1, c.1, d.1, 0, 0, false, [], [], 0, 0, [], 0))
  else if p.1 = 2 then
    let a := nm T p.2; let u := shS T a.2
    (u.2, mkA p.1 a.1 (raR (rdA n u.1)))
  else if p.1 = 3 then
    let u := shS T p.2
    (u.2, mkO p.1 (roR (rdO n u.1)))
  else (p.2, (p.1, 0, 0, 0, 0, 0, 0, false, [], [], 0, 0, [], 0))
def rcD (n : Int) (T : List UInt8) : Option Rc := if (rcS n T).1.2 = false ∧ rcT n (rcS n T).2 = some T then some (rcS n T).2 else none
theorem w_sReadRec (n : Int) (T : List UInt8) (hl : T.length ≤ 1048576) : g_sReadRec (n, BA T) = some (rrR (rcD n T), ()) := by
  show f_sReadRec BIG _ = _
  have r0 : g_sl09One (BA T, (0 : Int), false) = some ((on T (0, false)).1, (BA T, ((on T (0, false)).2.1 : Int), (on T (0, false)).2.2)) := w_sl09One T (0, false) (Nat.zero_le _) (by omega)
  have l0 : (on T (0, false)).2.1 ≤ T.length := on_le (Nat.zero_le _)
  rw [e_sReadRec, r0, Option.bind_some]
  dsimp only
  unfold rcD rcS
  simp only
  generalize on T (0, false) = p at l0
  by_cases k1 : p.1 = 1
  · simp only [k1, decide_true, cond_true, if_true]
    rw [w_sl09Var T p.2 l0 (by omega), Option.bind_some]
    have l1 := nm_le l0
    rw [w_sl09Var T _ l1 (by omega), Option.bind_some]
    have l2 := nm_le l1
    rw [w_sl09Var T _ l2 (by omega), Option.bind_some]
    have l3 := nm_le l2
    rw [w_sl09Var T _ l3 (by omega), Option.bind_some, Option.bind_some]
    exact sTail n T _ (1, (nm T p.2).1, (nm T (nm T p.2).2).1, (nm T (nm T (nm T p.2).2).2).1, (nm T (nm T (nm T (nm T p.2).2).2).2).1, 0, 0, false, [], [], 0, 0, [], 0) ⟨by simp, by simp, by simp⟩
  · simp only [k1, decide_false, cond_false, if_false]
    by_cases k2 : p.1 = 2
    · simp only [k2, decide_true, cond_true, if_true]
      rw [w_sl09Var T p.2 l0 (by omega), Option.bind_some]
      have l1 := nm_le l0
      have l2 := nm_le l1
      have nn := nm_nn T (nm T p.2).2
      rw [w_sl09Var T _ l1 (by omega), Option.bind_some, w_sl09Take T _ l2 (by omega) _ nn.1 nn.2, Option.bind_some]
      have hU : (shS T (nm T p.2).2).1.length ≤ 1048576 := by
        unfold shS tkS
        split
        · simp
        · simp only [List.length_take, List.length_drop]; omega
      have wA := w_sReadAnswer n _ hU
      unfold shS at wA
      simp only
      rw [wA, Option.bind_some, Option.bind_some]
      exact sTail n T _ (mkA 2 (nm T p.2).1 (raR (rdA n (shS T (nm T p.2).2).1))) (lenA n _ _ _)
    · simp only [k2, decide_false, cond_false, if_false]
      by_cases k3 : p.1 = 3
      · simp only [k3, decide_true, cond_true, if_true]
        have l1 := nm_le l0
        have nn := nm_nn T p.2
        rw [w_sl09Var T p.2 l0 (by omega), Option.bind_some, w_sl09Take T _ l1 (by omega) _ nn.1 nn.2, Option.bind_some]
        have hU : (shS T p.2).1.length ≤ 1048576 := by
          unfold shS tkS
          split
          · simp
          · simp only [List.length_take, List.length_drop]; omega
        have wA := w_sReadOrder n _ hU
        unfold shS at wA
        simp only
        rw [wA, Option.bind_some, Option.bind_some]
        exact sTail n T _ (mkO 3 (roR (rdO n (shS T p.2).1))) (lenO n _ _)
      · simp only [k3, decide_false, cond_false, if_false, Option.bind_some]
        exact sTail n T _ (p.1, 0, 0, 0, 0, 0, 0, false, [], [], 0, 0, [], 0) ⟨by simp, by simp, by simp⟩
theorem rc_ends {n : Int} {T : List UInt8} (h : (rcS n T).1.2 = false) (hr : rcT n (rcS n T).2 = some T) : (rcS n T).1.1 = T.length := by
  have l0 : (on T (0, false)).2.1 ≤ T.length := on_le (Nat.zero_le _)
  have t0 := @on_take T (0, false)
  unfold rcS at h hr ⊢
  simp only at h hr ⊢ t0
  generalize on T (0, false) = p at l0 h hr t0 ⊢
  by_cases k1 : p.1 = 1
  · simp only [k1, if_true] at h hr ⊢
    have l1 := nm_le l0
    have l2 := nm_le l1
    have l3 := nm_le l2
    have l4 := nm_le l3
    obtain ⟨a4, _⟩ := nm_take l3 h
    obtain ⟨a3, _⟩ := nm_take l2 (nm_bad h)
    obtain ⟨a2, _⟩ := nm_take l1 (nm_bad (nm_bad h))
    obtain ⟨a1, _⟩ := nm_take l0 (nm_bad (nm_bad (nm_bad h)))
    obtain ⟨a0, _⟩ := t0 (nm_bad (nm_bad (nm_bad (nm_bad h))))
    rw [a3, a2, a1, a0, k1] at a4
    unfold rcT at hr
    simp only [if_true] at hr
    split at hr
    · have hr := Option.some.inj hr
      refine (take_full l4).1 ?_
      rw [a4]
      refine Eq.trans ?_ hr
      simp only [List.take_zero, List.nil_append, List.append_assoc]
      rfl
    · cases hr
  · simp only [k1, if_false] at h hr ⊢
    by_cases k2 : p.1 = 2
    · simp only [k2, if_true] at h hr ⊢
      have l1 := nm_le l0
      obtain ⟨b1, b2, b3⟩ := shS_spec l1 h
      obtain ⟨a1, _⟩ := nm_take l0 b1
      obtain ⟨a0, _⟩ := t0 (nm_bad b1)
      rw [a1, a0, k2] at b3
      refine (take_full b2).1 ?_
      rw [b3]
      cases hA : rdA n (shS T (nm T p.2).2).1 with
      | none =>
        rw [hA] at hr
        unfold rcT mkA raR at hr
        simp only [show ¬ (2 : Int) = 1 from by decide, if_false, if_true] at hr
        split at hr
        · rename_i hc
          simp only [Bool.and_eq_true] at hc
          have := ansB_in hc.2
          simp only at this
          omega
        · cases hr
      | some a =>
        have hT := (rdA_some hA).2
        rw [hA] at hr
        unfold rcT mkA raR at hr
        simp only [show ¬ (2 : Int) = 1 from by decide, if_false, if_true] at hr
        split at hr
        · have hr := Option.some.inj hr
          refine Eq.trans ?_ hr
          have : aT (a.1, a.2.1, a.2.2.1, a.2.2.2) = aT a := rfl
          rw [this, hT]
          simp only [List.take_zero, List.nil_append, List.append_assoc]
          rfl
        · cases hr
    · simp only [k2, if_false] at h hr ⊢
      by_cases k3 : p.1 = 3
      · simp only [k3, if_true] at h hr ⊢
        obtain ⟨b1, b2, b3⟩ := shS_spec l0 h
        obtain ⟨a0, _⟩ := t0 b1
        rw [a0, k3] at b3
        refine (take_full b2).1 ?_
        rw [b3]
        cases hA : rdO n (shS T p.2).1 with
        | none =>
          rw [hA] at hr
          unfold rcT mkO roR at hr
          simp only [show ¬ (3 : Int) = 1 from by decide, show ¬ (3 : Int) = 2 from by decide, if_false, if_true] at hr
          split at hr
          · rename_i hc
            simp only [Bool.and_eq_true] at hc
            have := ordB_in hc.2
            simp only at this
            omega
          · cases hr
        | some a =>
          have hT := (rdO_some hA).2
          rw [hA] at hr
          unfold rcT mkO roR at hr
          simp only [show ¬ (3 : Int) = 1 from by decide, show ¬ (3 : Int) = 2 from by decide, if_false, if_true] at hr
          split at hr
          · have hr := Option.some.inj hr
            refine Eq.trans ?_ hr
            have : oT (a.1, a.2.1, a.2.2.1, a.2.2.2) = oT a := rfl
            rw [this, hT]
            simp only [List.take_zero, List.nil_append, List.append_assoc]
            rfl
          · cases hr
      · simp only [k3, if_false] at h hr
        unfold rcT at hr
        simp only [k1, k2, k3, if_false] at hr
        cases hr
theorem rcD_if (n : Int) (T : List UInt8) : (if true = true ∧ (rcS n T).1.2 = false ∧ (rcS n T).1.1 = T.length ∧ rcT n (rcS n T).2 = some T then some (rcS n T).2 else none) = rcD n T := by
  unfold rcD
  by_cases h : (rcS n T).1.2 = false ∧ rcT n (rcS n T).2 = some T
  · rw [if_pos h, if_pos ⟨rfl, h.1, rc_ends h.1 h.2, h.2⟩]
  · rw [if_neg h, if_neg (fun hc => h ⟨hc.2.1, hc.2.2.2⟩)]
theorem w_iReadRec (n : Int) (T : List UInt8) (hl : T.length ≤ 1048576) : g_iReadRec (n, BA T) = some (rrR (rcD n T), ()) := by
  show f_iReadRec BIG _ = _
  have r0 : g_ireader_one (BA T, (0 : Int), false) = some ((on T (0, false)).1, (BA T, ((on T (0, false)).2.1 : Int), (on T (0, false)).2.2)) := w_ireader_one T (0, false) (Nat.zero_le _) (by omega)
  have l0 : (on T (0, false)).2.1 ≤ T.length := on_le (Nat.zero_le _)
  rw [e_iReadRec, r0, Option.bind_some]
  dsimp only
  by_cases k1 : (on T (0, false)).1 = 1
  · have hS : rcS n T = ((nm T (nm T (nm T (nm T (on T (0, false)).2).2).2).2).2, (1, (nm T (on T (0, false)).2).1, (nm T (nm T (on T (0, false)).2).2).1, (nm T (nm T (nm T (on T (0, false)).2).2).2).1, (nm T (nm T (nm T (nm T (on T (0, false)).2).2).2).2).1, 0, 0, false, [], [], 0, 0, [], 0)) := by
      unfold rcS; simp only [k1, if_true]
    rw [← rcD_if, hS]
    simp only [k1, decide_true, cond_true]
    generalize on T (0, false) = p at l0
    rw [w_ireader_num T p.2 l0 (by omega), Option.bind_some]
    have l1 := nm_le l0
    rw [w_ireader_num T _ l1 (by omega), Option.bind_some]
    have l2 := nm_le l1
    rw [w_ireader_num T _ l2 (by omega), Option.bind_some]
    have l3 := nm_le l2
    rw [w_ireader_num T _ l3 (by omega), Option.bind_some, Option.bind_some]
    refine (iTail n T (nm T (nm T (nm T (nm T p.2).2).2).2).2 (1, (nm T p.2).1, (nm T (nm T p.2).2).1, (nm T (nm T (nm T p.2).2).2).1, (nm T (nm T (nm T (nm T p.2).2).2).2).1, 0, 0, false, [], [], 0, 0, [], 0) true ⟨by simp, by simp, by simp⟩).trans ?_
    congr
    simp
  · by_cases k2 : (on T (0, false)).1 = 2
    · have hS : rcS n T = ((shS T (nm T (on T (0, false)).2).2).2, mkA 2 (nm T (on T (0, false)).2).1 (raR (rdA n (shS T (nm T (on T (0, false)).2).2).1))) := by
        unfold rcS; simp only [k2, if_true, show ¬ (2 : Int) = 1 from by decide, if_false]
      simp only [k2, show ¬ (2 : Int) = 1 from by decide, decide_false, cond_false, decide_true, cond_true]
      rw [← rcD_if, hS]
      generalize on T (0, false) = p at l0
      have l1 := nm_le l0
      rw [w_ireader_num T p.2 l0 (by omega), Option.bind_some, w_ireader_short T _ l1 (by omega), Option.bind_some]
      obtain ⟨e1, e2, e3⟩ := sh_eq l1
      have hU : (shI T (nm T p.2).2).1.length ≤ 1048576 := by
        unfold shI
        split
        · simp
        · split
          · split
            · simp
            · simp only [List.length_take, List.length_drop]; omega
          · simp
      simp only
      rw [w_iReadAnswer n _ hU, Option.bind_some, Option.bind_some]
      refine (iTail n T (shI T (nm T p.2).2).2 (mkA 2 (nm T p.2).1 (raR (rdA n (shI T (nm T p.2).2).1))) (raR (rdA n (shI T (nm T p.2).2).1)).2.2.2.2 (lenA n _ _ _)).trans ?_
      have key : (if (raR (rdA n (shI T (nm T p.2).2).1)).2.2.2.2 = true ∧ (shI T (nm T p.2).2).2.2 = false ∧ (shI T (nm T p.2).2).2.1 = T.length ∧ rcT n (mkA 2 (nm T p.2).1 (raR (rdA n (shI T (nm T p.2).2).1))) = some T then some (mkA 2 (nm T p.2).1 (raR (rdA n (shI T (nm T p.2).2).1))) else none) =
          (if true = true ∧ (shS T (nm T p.2).2).2.2 = false ∧ (shS T (nm T p.2).2).2.1 = T.length ∧ rcT n (mkA 2 (nm T p.2).1 (raR (rdA n (shS T (nm T p.2).2).1))) = some T then some (mkA 2 (nm T p.2).1 (raR (rdA n (shS T (nm T p.2).2).1))) else none) := by
        have hno : ∀ U, rdA n U = none → rcT n (mkA 2 (nm T p.2).1 (raR (rdA n U))) ≠ some T := by
          intro U hA hr
          rw [hA] at hr
          unfold rcT mkA raR at hr
          simp only [show ¬ (2 : Int) = 1 from by decide, if_false, if_true] at hr
          split at hr
          · rename_i hc
            simp only [Bool.and_eq_true] at hc
            have := ansB_in hc.2
            simp only at this
            omega
          · cases hr
        cases hb : (shS T (nm T p.2).2).2.2 with
        | true => rw [if_neg (fun h => by rw [e3 hb] at h; cases h.2.1), if_neg (fun h => by cases h.2.1)]
        | false =>
          by_cases hlen : (shS T (nm T p.2).2).1.length ≤ 20000
          · rw [e1 hb hlen, hb]
            cases hA : rdA n (shS T (nm T p.2).2).1 with
            | none =>
              have := hno _ hA
              rw [hA] at this
              rw [if_neg (fun h => this h.2.2.2), if_neg (fun h => this h.2.2.2)]
            | some a => rfl
          · rw [if_neg (fun h => by rw [e2 hb hlen] at h; cases h.2.1)]
            cases hA : rdA n (shS T (nm T p.2).2).1 with
            | none =>
              have := hno _ hA
              rw [hA] at this
              rw [if_neg (fun h => this h.2.2.2)]
            | some a =>
              exfalso
              have h1 := rdA_some hA
              have := aT_len h1.1
              rw [h1.2] at this
              omega
      rw [key]
      congr
      simp
    · by_cases k3 : (on T (0, false)).1 = 3
      · have hS : rcS n T = ((shS T (on T (0, false)).2).2, mkO 3 (roR (rdO n (shS T (on T (0, false)).2).1))) := by
          unfold rcS; simp only [k3, if_true, show ¬ (3 : Int) = 1 from by decide, show ¬ (3 : Int) = 2 from by decide, if_false]
        simp only [k3, show ¬ (3 : Int) = 1 from by decide, show ¬ (3 : Int) = 2 from by decide, decide_false, cond_false, decide_true, cond_true]
        rw [← rcD_if, hS]
        generalize on T (0, false) = p at l0
        rw [w_ireader_short T _ l0 (by omega), Option.bind_some]
        obtain ⟨e1, e2, e3⟩ := sh_eq l0
        have hU : (shI T p.2).1.length ≤ 1048576 := by
          unfold shI
          split
          · simp
          · split
            · split
              · simp
              · simp only [List.length_take, List.length_drop]; omega
            · simp
        simp only
        rw [w_iReadOrder n _ hU, Option.bind_some, Option.bind_some]
        refine (iTail n T (shI T p.2).2 (mkO 3 (roR (rdO n (shI T p.2).1))) (roR (rdO n (shI T p.2).1)).2.2.2.2 (lenO n _ _)).trans ?_
        have key : (if (roR (rdO n (shI T p.2).1)).2.2.2.2 = true ∧ (shI T p.2).2.2 = false ∧ (shI T p.2).2.1 = T.length ∧ rcT n (mkO 3 (roR (rdO n (shI T p.2).1))) = some T then some (mkO 3 (roR (rdO n (shI T p.2).1))) else none) =
            (if true = true ∧ (shS T p.2).2.2 = false ∧ (shS T p.2).2.1 = T.length ∧ rcT n (mkO 3 (roR (rdO n (shS T p.2).1))) = some T then some (mkO 3 (roR (rdO n (shS T p.2).1))) else none) := by
          have hno : ∀ U, rdO n U = none → rcT n (mkO 3 (roR (rdO n U))) ≠ some T := by
            intro U hA hr
            rw [hA] at hr
            unfold rcT mkO roR at hr
            simp only [show ¬ (3 : Int) = 1 from by decide, show ¬ (3 : Int) = 2 from by decide, if_false, if_true] at hr
            split at hr
            · rename_i hc
              simp only [Bool.and_eq_true] at hc
              have := ordB_in hc.2
              simp only at this
              omega
            · cases hr
          cases hb : (shS T p.2).2.2 with
          | true => rw [if_neg (fun h => by rw [e3 hb] at h; cases h.2.1), if_neg (fun h => by cases h.2.1)]
          | false =>
            by_cases hlen : (shS T p.2).1.length ≤ 20000
            · rw [e1 hb hlen, hb]
              cases hA : rdO n (shS T p.2).1 with
              | none =>
                have := hno _ hA
                rw [hA] at this
                rw [if_neg (fun h => this h.2.2.2), if_neg (fun h => this h.2.2.2)]
              | some a => rfl
            · rw [if_neg (fun h => by rw [e2 hb hlen] at h; cases h.2.1)]
              cases hA : rdO n (shS T p.2).1 with
              | none =>
                have := hno _ hA
                rw [hA] at this
                rw [if_neg (fun h => this h.2.2.2)]
              | some a =>
                exfalso
                have h1 := rdO_some hA
                have := oT_len h1.1
                rw [h1.2] at this
                omega
        rw [key]
        congr
        simp
      · have hS : rcS n T = ((on T (0, false)).2, ((on T (0, false)).1, 0, 0, 0, 0, 0, 0, false, [], [], 0, 0, [], 0)) := by
          unfold rcS; simp only [k1, k2, k3, if_false]
        rw [← rcD_if, hS]
        simp only [k1, k2, k3, decide_false, cond_false, Option.bind_some]
        refine (iTail n T (on T (0, false)).2 ((on T (0, false)).1, 0, 0, 0, 0, 0, 0, false, [], [], 0, 0, [], 0) true ⟨by simp, by simp, by simp⟩).trans ?_
        congr
        simp
end Go.Fw
