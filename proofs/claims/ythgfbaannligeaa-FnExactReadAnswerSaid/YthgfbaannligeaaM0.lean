/- What the given functions come to. No conditions. -/
import Derived.Test.YthgfbaannligeaaX0
import Derived.IntWalk
set_option linter.unusedVariables false
set_option linter.unusedSimpArgs false
namespace Go.Fw

theorem loop_rel {X B : Type} {F : (X → Option B) → X → Option B} (I : X → Prop) (μ : X → Nat) (Q : X → B → Prop)
    (h : ∀ self x, I x → (∀ y, I y → μ y < μ x → ∃ b, self y = some b ∧ Q y b) → ∃ b, F self x = some b ∧ Q x b) : ∀ {n : Nat} {x : X}, μ x < n → I x → ∃ b, loopT n F x = some b ∧ Q x b
  | 0, _, hn, _ => absurd hn (Nat.not_lt_zero _)
  | n + 1, x, hn, hi => h (it F n) x hi fun _ hy hm => loop_rel I μ Q h (n := n) (by omega) hy
theorem loop_eq {X B : Type} {F : (X → Option B) → X → Option B} (I : X → Prop) (μ : X → Nat) (R : X → B)
    (h : ∀ self x, I x → (∀ y, I y → μ y < μ x → self y = some (R y)) → F self x = some (R x)) {n : Nat} {x : X} (hn : μ x < n) (hi : I x) : loopT n F x = some (R x) := by
  obtain ⟨b, h1, h2⟩ := loop_rel (F := F) I μ (fun x b => b = R x) (fun self x hx hs => ⟨_, h self x hx fun y hy hm => by obtain ⟨b, h1, h2⟩ := hs y hy hm; rw [h1, h2], rfl⟩) hn hi
  rw [h1, h2]
theorem wr {n : Int} (h : -9223372036854775808 ≤ n) (h' : n ≤ 9223372036854775807) : IntKind.wrap .i64 n = n := by
  rw [IntKind.wrap_i64]; omega
theorem wr1 {i : Nat} (h : i < maxLen) : IntKind.wrap .i64 ((i : Int) + 1) = ((i + 1 : Nat) : Int) := by
  have : maxLen = 9223372036854775807 := by decide
  rw [wr (by omega) (by omega)]; rfl
theorem bnd_ok {B : Type} {len : Nat} {i : Int} {k : Nat → Option B} (h : 0 ≤ i) (h' : i < len) : bnd len i k = k i.toNat := by
  unfold bnd
  rw [if_pos ⟨h, by omega⟩]
theorem bnd_nat {B : Type} {len : Nat} {i : Nat} {k : Nat → Option B} (h' : i < len) : bnd len (i : Int) k = k i := by
  rw [bnd_ok (Int.natCast_nonneg i) (by omega)]
  simp
/-- A loop that goes through a row, and is left at the first place where it is told so. -/
theorem allLoop {α B : Type} (a : List α) (hl : a.length < 18446744073709551616) {F : (Int → Option (Unit ⊕ B)) → Int → Option (Unit ⊕ B)} (p : Nat → Bool) (b : B)
    (hF : ∀ self (i : Nat) y, a[i]? = some y → F self (i : Int) = if p i then self ((i + 1 : Nat) : Int) else some (.inr b))
    (hE : ∀ self, F self (a.length : Int) = some (.inl ())) : loopT BIG F 0 = some (if ∀ i, i < a.length → p i = true then .inl () else .inr b) := by
  have hh := loop_rel (F := F) (fun x => ∃ i : Nat, x = i ∧ i ≤ a.length) (fun x => a.length - x.toNat) (fun x r => ((∀ i : Nat, x ≤ (i : Int) → i < a.length → p i = true) ∧ r = .inl ()) ∨ ((∃ i : Nat, i < a.length ∧ p i = false) ∧ r = .inr b)) (fun self x ⟨i, h1, h2⟩ hs => ?_) (n := BIG) (x := 0) (by simp; exact hl) ⟨0, rfl, by simp⟩
  · obtain ⟨r, hr, hq⟩ := hh
    rw [hr]
    congr 1
    rcases hq with ⟨h1, rfl⟩ | ⟨⟨i, h1, h2⟩, rfl⟩
    · rw [if_pos fun i hi => h1 i (by omega) hi]
    · rw [if_neg]
      intro h
      rw [h i h1] at h2; cases h2
  · subst h1
    by_cases hi : i < a.length
    · rw [hF self i a[i] (List.getElem?_eq_getElem hi)]
      cases hp : p i with
      | true =>
        rw [if_pos rfl]
        obtain ⟨r, hr, hq⟩ := hs _ ⟨i + 1, rfl, hi⟩ (by simp; omega)
        refine ⟨r, hr, ?_⟩
        rcases hq with ⟨h1, rfl⟩ | h1
        · refine .inl ⟨fun k hk hk' => ?_, rfl⟩
          by_cases h : k = i
          · subst h; exact hp
          · exact h1 k (by omega) hk'
        · exact .inr h1
      | false => exact ⟨_, rfl, .inr ⟨⟨i, hi, hp⟩, rfl⟩⟩
    · have : i = a.length := by omega
      subst this
      exact ⟨_, hE self, .inl ⟨fun k hk hk' => by omega, rfl⟩⟩
theorem maxLen_lt : maxLen < 18446744073709551616 := by decide
/-- Two rows that are looked at side by side. -/
theorem eqLoop {α B : Type} [DecidableEq α] (a b : List α) (hl : a.length ≤ maxLen) (hab : a.length = b.length) {F : (Int → Option (Unit ⊕ B)) → Int → Option (Unit ⊕ B)} (r : B)
    (hF : ∀ self (i : Nat) x y, a[i]? = some x → b[i]? = some y → F self (i : Int) = if x = y then self ((i + 1 : Nat) : Int) else some (.inr r))
    (hE : ∀ self, F self (a.length : Int) = some (.inl ())) : loopT BIG F 0 = some (if a = b then .inl () else .inr r) := by
  rw [allLoop a (Nat.lt_of_le_of_lt hl maxLen_lt) (fun i => decide (a[i]? = b[i]?)) r (fun self i y hy => ?_) hE]
  · congr 1
    by_cases h : a = b
    · subst h; simp
    · rw [if_neg h, if_neg]
      intro h'
      apply h
      apply List.ext_getElem? fun i => ?_
      by_cases hi : i < a.length
      · simpa using h' i hi
      · rw [List.getElem?_eq_none (by omega), List.getElem?_eq_none (by omega)]
  · have hi := (List.getElem?_eq_some_iff.1 hy).1
    have hb : b[i]? = some (b[i]'(by omega)) := List.getElem?_eq_getElem (by omega)
    rw [hF self i y _ hy hb, hy, hb]
    simp
/-- A row bears marks that go from a number to a number. -/
def HdL {α : Type} (hd : Int → α → Int → Prop) : Int → List α → Int → Prop
  | k, [], k' => k' = k
  | k, z :: t, k' => ∃ k1, hd k z k1 ∧ HdL hd k1 t k'
theorem HdL.snoc {α : Type} {hd : Int → α → Int → Prop} : ∀ {t : List α} {k k1 k2 : Int} {z : α}, HdL hd k t k1 → hd k1 z k2 → HdL hd k (t ++ [z]) k2
  | [], _, _, _, _, h, h' => by cases h; exact ⟨_, h', rfl⟩
  | _ :: _, _, _, _, _, ⟨k3, h1, h2⟩, h' => ⟨k3, h1, h2.snoc h'⟩
/-- A loop that marks each of a row. -/
theorem mkLoop {α : Type} (hd : Int → α → Int → Prop) (C : Int) (hC : 0 ≤ C) (a : List α) (k0 : Int) (hl : a.length < 18446744073709551616)
    {F : (List α × Int × Int → Option (List α × Int)) → List α × Int × Int → Option (List α × Int)}
    (hF : ∀ self out (i : Nat) (k : Int) y, i < a.length → out.length = a.length → out[i]? = some y → a[i]? = some y → k0 ≤ k → k ≤ k0 + C * i →
      ∃ z k', hd k z k' ∧ k ≤ k' ∧ k' ≤ k + C ∧ F self (out, k, (i : Int)) = self (out.set i z, k', ((i + 1 : Nat) : Int)))
    (hE : ∀ self out k, out.length = a.length → F self (out, k, (a.length : Int)) = some (out, k)) :
    ∃ t k', loopT BIG F (a, k0, 0) = some (t, k') ∧ HdL hd k0 t k' ∧ t.length = a.length ∧ k0 ≤ k' ∧ k' ≤ k0 + C * a.length := by
  have := loop_rel (F := F) (fun x => ∃ (i : Nat) (t : List α), x.2.2 = i ∧ i ≤ a.length ∧ t.length = i ∧ x.1 = t ++ a.drop i ∧ HdL hd k0 t x.2.1 ∧ k0 ≤ x.2.1 ∧ x.2.1 ≤ k0 + C * i) (fun x => a.length - x.2.2.toNat)
    (fun _ r => HdL hd k0 r.1 r.2 ∧ r.1.length = a.length ∧ k0 ≤ r.2 ∧ r.2 ≤ k0 + C * a.length) (fun self x ⟨i, t, h1, h2, h3, h4, h5, h6, h7⟩ hs => ?_) (n := BIG) (x := (a, k0, 0)) (by simp; exact hl)
    ⟨0, [], rfl, by simp, rfl, by simp, rfl, Int.le_refl _, by simp⟩
  · obtain ⟨⟨t, k'⟩, h1, h2⟩ := this
    exact ⟨t, k', h1, h2⟩
  · obtain ⟨out, k, j⟩ := x
    simp only at h1 h4 h5 h6 h7
    subst h1 h3
    have hlen : out.length = a.length := by rw [h4]; simp; omega
    by_cases hi : t.length < a.length
    · have hy := List.getElem?_eq_getElem hi
      have ho : out[t.length]? = a[t.length]? := by rw [h4, List.getElem?_append_right (Nat.le_refl _)]; simp
      obtain ⟨z, k', g1, g2, g3, g4⟩ := hF self out t.length k _ hi hlen (by rw [ho, hy]) hy h6 h7
      rw [g4]
      have e : out.set t.length z = (t ++ [z]) ++ a.drop (t.length + 1) := by
        rw [h4, List.set_append_right _ _ (Nat.le_refl _), Nat.sub_self, List.drop_eq_getElem_cons hi, List.set_cons_zero, List.append_assoc]
        rfl
      have hm : C * ((t.length + 1 : Nat) : Int) = C * (t.length : Int) + C := by rw [Int.natCast_add, Int.mul_add]; simp
      exact hs _ ⟨t.length + 1, t ++ [z], rfl, hi, by simp, e, h5.snoc g1, by simp only; omega, by simp only; omega⟩ (by simp only [Int.toNat_natCast]; omega)
    · have hi' : t.length = a.length := by omega
      rw [hi', hE self out k hlen]
      rw [hi', List.drop_length, List.append_nil] at h4
      subst h4
      exact ⟨_, rfl, h5, hi', h6, by rw [← hi']; exact h7⟩
/-- A loop that holds a row against its marks. -/
theorem hdLoop {α B : Type} (hd : Int → α → Int → Prop) (a : List α) (k0 k9 : Int) (hl : a.length < 18446744073709551616) (h : HdL hd k0 a k9)
    {F : (Int × Int → Option (Int ⊕ B)) → Int × Int → Option (Int ⊕ B)}
    (hF : ∀ self (i : Nat) (k k' : Int) z, a[i]? = some z → hd k z k' → F self (k, (i : Int)) = self (k', ((i + 1 : Nat) : Int)))
    (hE : ∀ self k, F self (k, (a.length : Int)) = some (.inl k)) : loopT BIG F (k0, 0) = some (.inl k9) := by
  have := loop_eq (F := F) (fun x => ∃ i : Nat, x.2 = i ∧ i ≤ a.length ∧ HdL hd x.1 (a.drop i) k9) (fun x => a.length - x.2.toNat) (fun _ => .inl k9) (fun self x ⟨i, h1, h2, h3⟩ hs => ?_) (n := BIG) (x := (k0, 0)) (by simp; exact hl) ⟨0, rfl, by simp, by simpa using h⟩
  · exact this
  · obtain ⟨k, j⟩ := x
    simp only at h1 h3
    subst h1
    by_cases hi : i < a.length
    · rw [List.drop_eq_getElem_cons hi] at h3
      obtain ⟨k1, g1, g2⟩ := h3
      rw [hF self i k k1 _ (List.getElem?_eq_getElem hi) g1]
      exact hs _ ⟨i + 1, rfl, hi, g2⟩ (by simp; omega)
    · have : i = a.length := by omega
      subst this
      rw [List.drop_length] at h3
      cases h3
      exact hE self _
/-- Two vertices hang together by edges. -/
inductive Con (E : List (Int × Int)) : Int → Int → Prop
  | refl (v : Int) : Con E v v
  | fwd {u v w : Int} : Con E u v → (v, w) ∈ E → Con E u w
  | bwd {u v w : Int} : Con E u v → (w, v) ∈ E → Con E u w
theorem Con.trans {E : List (Int × Int)} {u v w : Int} (h : Con E u v) (h' : Con E v w) : Con E u w := by
  induction h' with
  | refl => exact h
  | fwd _ he ih => exact .fwd ih he
  | bwd _ he ih => exact .bwd ih he
theorem Con.symm {E : List (Int × Int)} {u v : Int} (h : Con E u v) : Con E v u := by
  induction h with
  | refl => exact .refl _
  | fwd _ he ih => exact Con.trans (.bwd (.refl _) he) ih
  | bwd _ he ih => exact Con.trans (.fwd (.refl _) he) ih
theorem Con.mono {E E' : List (Int × Int)} (hE : ∀ e, e ∈ E → e ∈ E') {u v : Int} (h : Con E u v) : Con E' u v := by
  induction h with
  | refl => exact .refl _
  | fwd _ he ih => exact .fwd ih (hE _ he)
  | bwd _ he ih => exact .bwd ih (hE _ he)
theorem Con.of {E : List (Int × Int)} {u v : Int} (h : (u, v) ∈ E) : Con E u v := .fwd (.refl _) h
theorem Con.nil {u v : Int} (h : Con [] u v) : u = v := by
  induction h with
  | refl => rfl
  | fwd _ he _ => cases he
  | bwd _ he _ => cases he
theorem Con.snoc {E : List (Int × Int)} {a b u v : Int} : Con (E ++ [(a, b)]) u v ↔ Con E u v ∨ (Con E u a ∧ Con E b v) ∨ (Con E u b ∧ Con E a v) := by
  constructor
  · intro h
    induction h with
    | refl => exact .inl (.refl _)
    | fwd _ he ih =>
      rcases List.mem_append.1 he with h1 | h1
      · rcases ih with h | ⟨h, h'⟩ | ⟨h, h'⟩
        · exact .inl (.fwd h h1)
        · exact .inr (.inl ⟨h, .fwd h' h1⟩)
        · exact .inr (.inr ⟨h, .fwd h' h1⟩)
      · cases List.mem_singleton.1 h1
        rcases ih with h | ⟨h, h'⟩ | ⟨h, h'⟩
        · exact .inr (.inl ⟨h, .refl _⟩)
        · exact .inr (.inl ⟨h, .refl _⟩)
        · exact .inl h
    | bwd _ he ih =>
      rcases List.mem_append.1 he with h1 | h1
      · rcases ih with h | ⟨h, h'⟩ | ⟨h, h'⟩
        · exact .inl (.bwd h h1)
        · exact .inr (.inl ⟨h, .bwd h' h1⟩)
        · exact .inr (.inr ⟨h, .bwd h' h1⟩)
      · cases List.mem_singleton.1 h1
        rcases ih with h | ⟨h, h'⟩ | ⟨h, h'⟩
        · exact .inr (.inr ⟨h, .refl _⟩)
        · exact .inl h
        · exact .inr (.inr ⟨h, .refl _⟩)
  · have hm : ∀ {x y : Int}, Con E x y → Con (E ++ [(a, b)]) x y := fun h => h.mono fun e he => List.mem_append_left _ he
    have hab : Con (E ++ [(a, b)]) a b := .of (List.mem_append_right _ (List.mem_singleton.2 rfl))
    rintro (h | ⟨h, h'⟩ | ⟨h, h'⟩)
    · exact hm h
    · exact (hm h).trans (hab.trans (hm h'))
    · exact (hm h).trans (hab.symm.trans (hm h'))
/-- Edges of so many vertices. -/
def EIn (n : Nat) (E : List (Int × Int)) : Prop := ∀ e, e ∈ E → 0 ≤ e.1 ∧ e.1 < n ∧ 0 ≤ e.2 ∧ e.2 < n
theorem Con.range {n : Nat} {E : List (Int × Int)} (hE : EIn n E) {u v : Int} (h : Con E u v) (hu : 0 ≤ u ∧ u < n) : 0 ≤ v ∧ v < n := by
  induction h with
  | refl => exact hu
  | fwd _ he _ => exact ⟨(hE _ he).2.2.1, (hE _ he).2.2.2⟩
  | bwd _ he _ => exact ⟨(hE _ he).1, (hE _ he).2.1⟩
/-- Labels: to each vertex the least one that it hangs together with. -/
def Lab (n : Nat) (E : List (Int × Int)) (l : List Int) : Prop :=
  l.length = n ∧ ∀ (v : Nat) (x : Int), l[v]? = some x → Con E v x ∧ 0 ≤ x ∧ ∀ u : Int, 0 ≤ u → Con E v u → x ≤ u
theorem Lab.le {n : Nat} {E : List (Int × Int)} {l : List Int} (h : Lab n E l) {v : Nat} {x : Int} (hx : l[v]? = some x) : x ≤ v :=
  (h.2 v x hx).2.2 v (Int.natCast_nonneg v) (.refl _)
theorem Lab.lt {n : Nat} {E : List (Int × Int)} {l : List Int} (h : Lab n E l) {v : Nat} {x : Int} (hx : l[v]? = some x) : 0 ≤ x ∧ x < n := by
  have h1 := h.le hx
  have h2 := (List.getElem?_eq_some_iff.1 hx).1
  have h3 := (h.2 v x hx).2.1
  have h4 := h.1
  omega
theorem Lab.iff {n : Nat} {E : List (Int × Int)} {l : List Int} (h : Lab n E l) {u v : Nat} {x y : Int} (hx : l[u]? = some x) (hy : l[v]? = some y) : x = y ↔ Con E u v := by
  have h1 := h.2 u x hx
  have h2 := h.2 v y hy
  constructor
  · intro e
    subst e
    exact h1.1.trans h2.1.symm
  · intro c
    have a := h1.2.2 y h2.2.1 (c.trans h2.1)
    have b := h2.2.2 x h1.2.1 (c.symm.trans h1.1)
    omega
/-- A label is its own label. -/
theorem Lab.self {n : Nat} {E : List (Int × Int)} {l : List Int} (h : Lab n E l) {v : Nat} {x : Int} (hx : l[v]? = some x) : l[x.toNat]? = some x := by
  have h1 := h.lt hx
  have hi : x.toNat < l.length := by rw [h.1]; omega
  rw [List.getElem?_eq_getElem hi]
  have h2 := h.2 v x hx
  have hc : Con E (x.toNat : Int) v := by rw [Int.toNat_of_nonneg h1.1]; exact h2.1.symm
  rw [(h.iff (List.getElem?_eq_getElem hi) hx).2 hc]
/-- Labels without edges. -/
def lab0 (n : Nat) : List Int := (List.range n).map fun (i : Nat) => (i : Int)
theorem lab0_get {n v : Nat} {x : Int} (h : (lab0 n)[v]? = some x) : v < n ∧ x = v := by
  have hi := (List.getElem?_eq_some_iff.1 h).1
  simp only [lab0, List.length_map, List.length_range] at hi
  simp only [lab0, List.getElem?_map, List.getElem?_range hi, Option.map_some, Option.some.injEq] at h
  exact ⟨hi, h.symm⟩
theorem lab0_len (n : Nat) : (lab0 n).length = n := by simp [lab0]
theorem Lab.zero (n : Nat) : Lab n [] (lab0 n) := by
  refine ⟨lab0_len n, fun v x h => ?_⟩
  obtain ⟨_, rfl⟩ := lab0_get h
  exact ⟨.refl _, Int.natCast_nonneg v, fun u _ h => by rw [h.nil]; exact Int.le_refl _⟩
section
variable {n : Nat} {E : List (Int × Int)} {L : List Int}
/-- On the way down to the labels. -/
def Dn (n : Nat) (E : List (Int × Int)) (l : List Int) : Prop := l.length = n ∧ ∀ (v : Nat) (x : Int), l[v]? = some x → Con E v x ∧ 0 ≤ x
theorem Dn.set {l : List Int} (h : Dn n E l) {v : Nat} {x : Int} (hc : Con E v x) (h0 : 0 ≤ x) : Dn n E (l.set v x) := by
  refine ⟨by simp [h.1], fun u y hu => ?_⟩
  rw [List.getElem?_set] at hu
  split at hu
  · subst v
    split at hu
    · cases hu; exact ⟨hc, h0⟩
    · cases hu
  · exact h.2 u y hu
end
theorem h_sl01In (a b c : Int) : g_sl01In (a, b, c) = some (decide (b ≤ a) && decide (a ≤ c), ()) := by
  show f_sl01In BIG _ = _
  rw [e_sl01In]
  cases decide (b ≤ a) <;> rfl
theorem h_iin (a b c : Int) : g_iin (a, b, c) = some (decide (b ≤ a) && decide (a ≤ c), ()) := by
  show f_iin BIG _ = _
  rw [e_iin]
  cases decide (b ≤ a) <;> rfl
abbrev Ed := Int × Int
open Classical in
open Classical in
def inB (a b c : Int) : Bool := decide (b ≤ a) && decide (a ≤ c)
theorem h_sl01In' (a b c : Int) : g_sl01In (a, b, c) = some (inB a b c, ()) := h_sl01In a b c
theorem h_iin' (a b c : Int) : g_iin (a, b, c) = some (inB a b c, ()) := h_iin a b c
theorem inB_t {a b c : Int} : inB a b c = true ↔ b ≤ a ∧ a ≤ c := by simp [inB]
def edB (n : Int) (e : Ed) : Bool := inB n 1 12 && (inB e.1 0 (n - 1) && (inB e.2 0 (n - 1) && decide (e.1 < e.2)))
theorem h_iEdgeOk (n : Int) (e : Ed) : g_iEdgeOk (n, e) = some (edB n e, ()) := by
  show f_iEdgeOk BIG _ = _
  rw [e_iEdgeOk, h_iin', Option.bind_some]
  unfold edB
  cases h : inB n 1 12 with
  | false => rfl
  | true =>
    have := inB_t.1 h
    rw [wr (by omega) (by omega)]
    simp only [h_iin', Option.bind_some, cond_true, Bool.true_and]
    cases inB e.1 0 (n - 1) <;> cases inB e.2 0 (n - 1) <;> rfl
theorem h_sEdgeOk (n : Int) (e : Ed) : g_sEdgeOk (n, e) = some (edB n e, ()) := by
  show f_sEdgeOk BIG _ = _
  rw [e_sEdgeOk, h_sl01In', Option.bind_some]
  unfold edB
  cases h : inB n 1 12 with
  | false => rfl
  | true =>
    have := inB_t.1 h
    rw [wr (by omega) (by omega)]
    simp only [h_sl01In', Option.bind_some, cond_true, Bool.true_and]
    cases inB e.1 0 (n - 1) <;> cases inB e.2 0 (n - 1) <;> rfl
def lsB (x y : Ed) : Bool := decide (x.1 < y.1) || (decide (x.1 = y.1) && decide (x.2 < y.2))
theorem h_iahead (x y : Ed) : g_iahead (x, y) = some (lsB x y, ()) := by
  show f_iahead BIG _ = _
  rw [e_iahead]
  unfold lsB
  cases decide (x.1 < y.1) <;> cases decide (x.1 = y.1) <;> rfl
theorem h_sl05Less (x y : Ed) : g_sl05Less (x, y) = some (lsB x y, ()) := by
  show f_sl05Less BIG _ = _
  rw [e_sl05Less]
  unfold lsB
  cases decide (x.1 < y.1) <;> cases decide (x.1 = y.1) <;> rfl
def eP (n : Int) (es : List Ed) (i : Nat) : Bool := match es[i]? with
  | some y => edB n y && (match i with
    | 0 => true
    | j + 1 => match es[j]? with
      | some x => lsB x y
      | none => false)
  | none => false
theorem eP_0 {n : Int} {es : List Ed} {y : Ed} (h : es[0]? = some y) : eP n es 0 = edB n y := by
  unfold eP; rw [h]; simp
theorem eP_s {n : Int} {es : List Ed} {x y : Ed} {j : Nat} (h : es[j + 1]? = some y) (h' : es[j]? = some x) : eP n es (j + 1) = (edB n y && lsB x y) := by
  unfold eP; rw [h]; simp only [h']
def eOk (n : Int) (es : List Ed) : Bool := if ∀ i, i < es.length → eP n es i = true then decide ((es.length : Int) ≤ 66) else false
theorem eOk_len {n : Int} {es : List Ed} (h : eOk n es = true) : es.length ≤ 66 := by
  unfold eOk at h
  split at h
  · rw [decide_eq_true_eq] at h; omega
  · cases h
theorem h_iedgesOk (n : Int) (es : List Ed) (hl : es.length ≤ 1048576) : g_iedgesOk (n, es) = some (eOk n es, ()) := by
  have hm : maxLen = 9223372036854775807 := by decide
  show f_iedgesOk BIG _ = _
  rw [e_iedgesOk, allLoop es (by omega) (eP n es) false]
  · unfold eOk
    split <;> rfl
  · intro self i y hy
    have hi := (List.getElem?_eq_some_iff.1 hy).1
    simp only [show ((i : Int) < (es.length : Int)) from by omega, decide_true, cond_true]
    rw [bnd_nat hi, hy, Option.bind_some, h_iEdgeOk, wr1 (by omega)]
    cases i with
    | zero =>
      rw [eP_0 hy]
      cases edB n y <;> simp
    | succ j =>
      have hj : es[j]? = some (es[j]'(by omega)) := List.getElem?_eq_getElem (by omega)
      rw [eP_s hy hj, show (((j + 1 : Nat) : Int) - 1) = (j : Int) from by omega, wr (n := (j : Int)) (by omega) (by omega)]
      cases hb : edB n y with
      | false => simp
      | true =>
        simp only [Option.bind_some, Bool.not_true, cond_false, show (0 : Int) < ((j + 1 : Nat) : Int) from by omega, decide_true, cond_true, Bool.true_and]
        rw [bnd_nat (by omega), hj]
        simp only [Option.bind_some]
        simp only [Option.bind_some, h_iahead]
        cases lsB _ y <;> rfl
  · intro self
    simp
theorem h_sl05Edges (n : Int) (es : List Ed) (hl : es.length ≤ 1048576) : g_sl05Edges (n, es) = some (eOk n es, ()) := by
  have hm : maxLen = 9223372036854775807 := by decide
  show f_sl05Edges BIG _ = _
  rw [e_sl05Edges, allLoop es (by omega) (eP n es) false]
  · unfold eOk
    split <;> rfl
  · intro self i y hy
    have hi := (List.getElem?_eq_some_iff.1 hy).1
    simp only [show ((i : Int) < (es.length : Int)) from by omega, decide_true, cond_true]
    rw [bnd_nat hi, hy, Option.bind_some, h_sEdgeOk, wr1 (by omega)]
    cases i with
    | zero =>
      rw [eP_0 hy]
      cases edB n y <;> simp
    | succ j =>
      have hj : es[j]? = some (es[j]'(by omega)) := List.getElem?_eq_getElem (by omega)
      rw [eP_s hy hj, show (((j + 1 : Nat) : Int) - 1) = (j : Int) from by omega, wr (n := (j : Int)) (by omega) (by omega)]
      cases hb : edB n y with
      | false => simp
      | true =>
        simp only [Option.bind_some, Bool.not_true, cond_false, show (0 : Int) < ((j + 1 : Nat) : Int) from by omega, decide_true, cond_true, Bool.true_and]
        rw [bnd_nat (by omega), hj]
        simp only [Option.bind_some]
        rw [bnd_nat hi, hy]
        simp only [Option.bind_some, h_sl05Less]
        cases lsB _ y <;> rfl
  · intro self
    simp
def lbP (l : List Int) (i : Nat) : Bool := match l[i]? with
  | some y => inB y 0 i && (match l[y.toNat]? with
    | some z => decide (z = y)
    | none => false)
  | none => false
theorem lbP_eq {l : List Int} {i : Nat} {y z : Int} (h : l[i]? = some y) (h' : l[y.toNat]? = some z) : lbP l i = (inB y 0 i && decide (z = y)) := by
  unfold lbP; rw [h]; simp only [h']
theorem lbP_f {l : List Int} {i : Nat} {y : Int} (h : l[i]? = some y) (h' : inB y 0 i = false) : lbP l i = false := by
  unfold lbP; rw [h]; simp only [h', Bool.false_and]
def lbOk (n : Int) (l : List Int) : Bool := if (l.length : Int) = n then (if ∀ i, i < l.length → lbP l i = true then true else false) else false
theorem h_ilabelsOk (n : Int) (l : List Int) (hl : l.length ≤ 1048576) : g_ilabelsOk (n, l) = some (lbOk n l, ()) := by
  have hm : maxLen = 9223372036854775807 := by decide
  show f_ilabelsOk BIG _ = _
  rw [e_ilabelsOk]
  unfold lbOk
  by_cases hn : (l.length : Int) = n
  · rw [if_pos hn, decide_eq_true hn, Bool.not_true, cond_false, allLoop l (by omega) (lbP l) false]
    · split <;> rfl
    · intro self i y hy
      have hi := (List.getElem?_eq_some_iff.1 hy).1
      simp only [show ((i : Int) < (l.length : Int)) from by omega, decide_true, cond_true]
      rw [bnd_nat hi, hy, Option.bind_some, h_iin', wr1 (by omega)]
      cases hb : inB y 0 (i : Int) with
      | false => rw [lbP_f hy hb]; simp
      | true =>
        have := inB_t.1 hb
        have hz : l[y.toNat]? = some (l[y.toNat]'(by omega)) := List.getElem?_eq_getElem (by omega)
        rw [lbP_eq hy hz, hb]
        simp only [Option.bind_some, Bool.not_true, cond_false, Bool.true_and]
        rw [bnd_ok (by omega) (by omega), hz]
        simp only [Option.bind_some]
        by_cases hd : l[y.toNat]'(by omega) = y <;> simp [hd]
    · intro self
      simp
  · rw [if_neg hn, decide_eq_false hn]; rfl
theorem h_sl09Labels (n : Int) (l : List Int) (hl : l.length ≤ 1048576) : g_sl09Labels (n, l) = some (lbOk n l, ()) := by
  have hm : maxLen = 9223372036854775807 := by decide
  show f_sl09Labels BIG _ = _
  rw [e_sl09Labels]
  unfold lbOk
  by_cases hn : (l.length : Int) = n
  · rw [if_pos hn, decide_eq_true hn, Bool.not_true, cond_false]
    subst hn
    rw [allLoop l (by omega) (lbP l) false]
    · split <;> rfl
    · intro self i y hy
      have hi := (List.getElem?_eq_some_iff.1 hy).1
      simp only [show ((i : Int) < (l.length : Int)) from by omega, decide_true, cond_true]
      simp only [bnd_nat hi, hy, Option.bind_some, h_sl01In', wr1 (show i < maxLen from by omega)]
      cases hb : inB y 0 (i : Int) with
      | false => rw [lbP_f hy hb]; simp
      | true =>
        have := inB_t.1 hb
        have hz : l[y.toNat]? = some (l[y.toNat]'(by omega)) := List.getElem?_eq_getElem (by omega)
        rw [lbP_eq hy hz, hb]
        simp only [Option.bind_some, Bool.not_true, cond_false, Bool.true_and]
        rw [bnd_ok (by omega) (by omega), hz]
        simp only [Option.bind_some]
        by_cases hd : l[y.toNat]'(by omega) = y <;> simp [hd]
    · intro self
      simp
  · rw [if_neg hn, decide_eq_false hn]; rfl
abbrev An := Int × Bool × List (Int × Int) × List Int
def ansB (n : Int) (o : An) : Bool := inB n 1 12 && (inB o.1 1 100000 && (eOk n o.2.2.1 && lbOk n o.2.2.2))
theorem h_iAnswerOk (n : Int) (o : An) (hl : o.2.2.1.length ≤ 1048576) (hl' : o.2.2.2.length ≤ 1048576) : g_iAnswerOk (n, o) = some (ansB n o, ()) := by
  show f_iAnswerOk BIG _ = _
  rw [e_iAnswerOk]
  simp only [h_iin', h_iedgesOk n _ hl, h_ilabelsOk n _ hl', Option.bind_some]
  unfold ansB
  cases inB n 1 12 <;> cases inB o.1 1 100000 <;> cases eOk n o.2.2.1 <;> rfl
theorem h_sAnswerOk (n : Int) (o : An) (hl : o.2.2.1.length ≤ 1048576) (hl' : o.2.2.2.length ≤ 1048576) : g_sAnswerOk (n, o) = some (ansB n o, ()) := by
  show f_sAnswerOk BIG _ = _
  rw [e_sAnswerOk]
  simp only [h_sl01In', h_sl05Edges n _ hl, h_sl09Labels n _ hl', Option.bind_some]
  unfold ansB
  cases inB n 1 12 <;> cases inB o.1 1 100000 <;> cases eOk n o.2.2.1 <;> rfl
theorem eq_Edge (x0 : Int) (x1 : Int) (y0 : Int) (y1 : Int) : g_leqEdge ((x0, x1), (y0, y1)) = some (decide ((x0, x1) = (y0, y1)), ()) := by
  show f_leqEdge BIG _ = _
  rw [e_leqEdge]
  dsimp only
  by_cases c0 : x0 = y0
  case neg =>
    simp [c0]
  rw [decide_eq_true c0, Bool.not_true, cond_false]
  by_cases c1 : x1 = y1
  case neg =>
    simp [c1]
  rw [decide_eq_true c1, Bool.not_true, cond_false]
  rw [decide_eq_true (by simp_all)]
theorem eq_IntS (a b : List (Int)) (h : a.length ≤ 4294967296) : g_leqIntS (a, b) = some (decide (a = b), ()) := by
  have hm : maxLen = 9223372036854775807 := by decide
  show f_leqIntS BIG _ = _
  rw [e_leqIntS]
  by_cases hl : a.length = b.length
  · rw [decide_eq_true (by omega), Bool.not_true, cond_false, eqLoop a b (by omega) hl false]
    · by_cases h : a = b <;> simp [h]
    · intro self i x y hx hy
      have hi := (List.getElem?_eq_some_iff.1 hx).1
      simp only [show ((i : Int) < (a.length : Int)) from by omega, decide_true, cond_true]
      rw [bnd_nat hi, hx, Option.bind_some, bnd_nat (by omega), hy, Option.bind_some]
      rw [wr1 (by omega)]
      by_cases h : x = y <;> simp [h]
    · intro self
      simp
  · rw [decide_eq_false (by omega), Bool.not_false, cond_true, decide_eq_false (fun h => hl (by rw [h]))]
def hd_IntS (k : Int) (z : Int) (k' : Int) : Prop := z = k ∧ k' = k + 1 ∧ 0 ≤ k ∧ k ≤ 4611686018427387904
theorem mh_IntS (a : List (Int)) (k : Int) (h0 : 0 ≤ k) (hk : k + 16777216 ≤ 4611686018427387904) (hz : a.length ≤ 16777216) : ∃ t c, g_lmarkIntS (a, k) = some (c, t) ∧ g_lheldIntS (t, k) = some (c, ()) ∧ k ≤ c ∧ c ≤ k + 16777216 := by
  have hm : maxLen = 9223372036854775807 := by decide
  have L := mkLoop hd_IntS 1 (by omega) a k (by omega) (F := fun self1 x0 =>
    bif decide (x0.2.2 < (x0.1.length : Int)) then
     bnd x0.1.length x0.2.2 fun n2 =>
     Option.bind x0.1[n2]? fun y3 =>
     self1 (x0.1.set n2 x0.2.1, IntKind.wrap .i64 (x0.2.1 + (1 : Int)), IntKind.wrap .i64 (x0.2.2 + (1 : Int)))
    else some (x0.1, x0.2.1)) (by
    intro self out i k y hi hl hy _ hk0 hk1
    have hi' : i < out.length := by omega
    have w1 : IntKind.wrap .i64 (k + 1) = k + 1 := wr (by omega) (by omega)
    refine ⟨k, k + 1, ⟨rfl, rfl, by omega, by omega⟩, by omega, by omega, ?_⟩
    simp only [hl, show ((i : Int) < (a.length : Int)) from by omega, decide_true, cond_true, List.length_set, bnd_nat hi, hy, List.getElem?_set_self hi', Option.bind_some, List.set_set, w1, and_true]
    rw [wr1 (by omega)]) (by
    intro self out k hl
    simp [hl])
  obtain ⟨t, c, e1, e2, e3, e4, e5⟩ := L
  refine ⟨t, c, ?_, ?_, e4, by omega⟩
  · show f_lmarkIntS BIG _ = _
    rw [e_lmarkIntS, e1]
    rfl
  · show f_lheldIntS BIG _ = _
    rw [e_lheldIntS, hdLoop hd_IntS t k c (by omega) e2]
    · rfl
    · intro self i kk kk' z hz ⟨g1, g2, g3, g4⟩
      subst g2
      rw [g1] at hz
      have hi := (List.getElem?_eq_some_iff.1 hz).1
      have w1 : IntKind.wrap .i64 (kk + 1) = kk + 1 := wr (by omega) (by omega)
      simp only [show ((i : Int) < (t.length : Int)) from by omega, decide_true, cond_true, bnd_nat hi, hz, Option.bind_some, w1, Bool.not_true, cond_false, beq_self_eq_true]
      rw [wr1 (by omega)]
    · intro self k
      simp
theorem eq_EdgeS (a b : List (Int × Int)) (h : a.length ≤ 4294967296) : g_leqEdgeS (a, b) = some (decide (a = b), ()) := by
  have hm : maxLen = 9223372036854775807 := by decide
  show f_leqEdgeS BIG _ = _
  rw [e_leqEdgeS]
  by_cases hl : a.length = b.length
  · rw [decide_eq_true (by omega), Bool.not_true, cond_false, eqLoop a b (by omega) hl false]
    · by_cases h : a = b <;> simp [h]
    · intro self i x y hx hy
      have hi := (List.getElem?_eq_some_iff.1 hx).1
      simp only [show ((i : Int) < (a.length : Int)) from by omega, decide_true, cond_true]
      rw [bnd_nat hi, hx, Option.bind_some, bnd_nat (by omega), hy, Option.bind_some]
      rw [wr1 (by omega)]
      rw [eq_Edge _ _ _ _, Option.bind_some]
      by_cases h : x = y <;> simp [h]
    · intro self
      simp
  · rw [decide_eq_false (by omega), Bool.not_false, cond_true, decide_eq_false (fun h => hl (by rw [h]))]
def hd_EdgeS (k : Int) (z : Int × Int) (k' : Int) : Prop := z = (k, k + 1) ∧ k' = k + 1 + 1 ∧ 0 ≤ k ∧ k ≤ 4611686018427387904
theorem mh_EdgeS (a : List (Int × Int)) (k : Int) (h0 : 0 ≤ k) (hk : k + 33554432 ≤ 4611686018427387904) (hz : a.length ≤ 16777216) : ∃ t c, g_lmarkEdgeS (a, k) = some (c, t) ∧ g_lheldEdgeS (t, k) = some (c, ()) ∧ k ≤ c ∧ c ≤ k + 33554432 := by
  have hm : maxLen = 9223372036854775807 := by decide
  have L := mkLoop hd_EdgeS 2 (by omega) a k (by omega) (F := fun self1 x0 =>
    bif decide (x0.2.2 < (x0.1.length : Int)) then
     bnd x0.1.length x0.2.2 fun n2 =>
     Option.bind x0.1[n2]? fun y3 =>
     bnd (x0.1.set n2 (x0.2.1, y3.2)).length x0.2.2 fun n4 =>
     Option.bind (x0.1.set n2 (x0.2.1, y3.2))[n4]? fun y5 =>
     self1 ((x0.1.set n2 (x0.2.1, y3.2)).set n4 (y5.1, IntKind.wrap .i64 (x0.2.1 + (1 : Int))), IntKind.wrap .i64 ((IntKind.wrap .i64 (x0.2.1 + (1 : Int))) + (1 : Int)), IntKind.wrap .i64 (x0.2.2 + (1 : Int)))
    else some (x0.1, x0.2.1)) (by
    intro self out i k y hi hl hy _ hk0 hk1
    have hi' : i < out.length := by omega
    have w1 : IntKind.wrap .i64 (k + 1) = k + 1 := wr (by omega) (by omega)
    have w2 : IntKind.wrap .i64 (k + 1 + 1) = k + 1 + 1 := wr (by omega) (by omega)
    refine ⟨(k, k + 1), k + 1 + 1, ⟨rfl, rfl, by omega, by omega⟩, by omega, by omega, ?_⟩
    simp only [hl, show ((i : Int) < (a.length : Int)) from by omega, decide_true, cond_true, List.length_set, bnd_nat hi, hy, List.getElem?_set_self hi', Option.bind_some, List.set_set, w1, w2, and_true]
    rw [wr1 (by omega)]) (by
    intro self out k hl
    simp [hl])
  obtain ⟨t, c, e1, e2, e3, e4, e5⟩ := L
  refine ⟨t, c, ?_, ?_, e4, by omega⟩
  · show f_lmarkEdgeS BIG _ = _
    rw [e_lmarkEdgeS, e1]
    rfl
  · show f_lheldEdgeS BIG _ = _
    rw [e_lheldEdgeS, hdLoop hd_EdgeS t k c (by omega) e2]
    · rfl
    · intro self i kk kk' z hz ⟨g1, g2, g3, g4⟩
      subst g2
      rw [g1] at hz
      have hi := (List.getElem?_eq_some_iff.1 hz).1
      have w1 : IntKind.wrap .i64 (kk + 1) = kk + 1 := wr (by omega) (by omega)
      have w2 : IntKind.wrap .i64 (kk + 1 + 1) = kk + 1 + 1 := wr (by omega) (by omega)
      simp only [show ((i : Int) < (t.length : Int)) from by omega, decide_true, cond_true, bnd_nat hi, hz, Option.bind_some, w1, w2, Bool.not_true, cond_false, beq_self_eq_true]
      rw [wr1 (by omega)]
    · intro self k
      simp
theorem eq_Answer (x0 : Int) (x1 : Bool) (x2 : List (Int × Int)) (x3 : List (Int)) (h : (x2.length + x3.length) ≤ 4294967296) : g_leqAnswer ((x0, x1, x2, x3), (x0, x1, x2, x3)) = some (true, ()) := by
  show f_leqAnswer BIG _ = _
  rw [e_leqAnswer]
  dsimp only
  rw [decide_eq_true rfl, Bool.not_true, cond_false]
  rw [beq_self_eq_true, Bool.not_true, cond_false]
  rw [eq_EdgeS x2 x2 (by omega), Option.bind_some]
  rw [decide_eq_true rfl, Bool.not_true, cond_false]
  rw [eq_IntS x3 x3 (by omega), Option.bind_some]
  rw [decide_eq_true rfl, Bool.not_true, cond_false]
theorem mh_Answer (x0 : Int) (x1 : Bool) (x2 : List (Int × Int)) (x3 : List (Int)) (k : Int) (h0 : 0 ≤ k) (hk : k + 50331648 ≤ 4611686018427387904) (hz : (x2.length + x3.length) ≤ 16777216) : ∃ t2 t3 c, g_lmarkAnswer ((x0, x1, x2, x3), k) = some (c, (x0, x1, t2, t3)) ∧ g_lheldAnswer ((x0, x1, t2, t3), k) = some (c, ()) ∧ k ≤ c ∧ c ≤ k + 50331648 := by
  obtain ⟨t2, c0, m0, d0, l0, u0⟩ := mh_EdgeS x2 k (by omega) (by omega) (by omega)
  obtain ⟨t3, c1, m1, d1, l1, u1⟩ := mh_IntS x3 c0 (by omega) (by omega) (by omega)
  refine ⟨t2, t3, c1, ?_, ?_, by omega, by omega⟩
  · show f_lmarkAnswer BIG _ = _
    rw [e_lmarkAnswer]
    dsimp only
    rw [m0, Option.bind_some, m1, Option.bind_some]
  · show f_lheldAnswer BIG _ = _
    rw [e_lheldAnswer]
    dsimp only
    rw [d0, Option.bind_some]
    dsimp only
    rw [decide_eq_false (by omega), cond_false]
    rw [d1, Option.bind_some]
    dsimp only
    rw [decide_eq_false (by omega), cond_false]
theorem neg_f {c : Int} (h : 1 ≤ c) : decide (c < 0) = false := decide_eq_false (by omega)
/-- A loop through a row that keeps an account, in whatever form. -/
theorem foldG {α S X B : Type} (a : List α) (hl : a.length < 18446744073709551616) {F : (X → Option B) → X → Option B} (mk : S → Int → X) (I : Nat → S → Prop) (st : S → α → S) (R : S → B) {s0 : S} (h0 : I 0 s0)
    (hI : ∀ i s y, a[i]? = some y → I i s → I (i + 1) (st s y)) (hF : ∀ self s (i : Nat) y, a[i]? = some y → I i s → F self (mk s (i : Int)) = self (mk (st s y) ((i + 1 : Nat) : Int)))
    (hE : ∀ self s, I a.length s → F self (mk s (a.length : Int)) = some (R s)) : loopT BIG F (mk s0 0) = some (R (a.foldl st s0)) := by
  have key : ∀ (k n i : Nat) (s : S), a.length - i ≤ k → k < n → i ≤ a.length → I i s → it F n (mk s (i : Int)) = some (R ((a.drop i).foldl st s)) := by
    intro k
    induction k with
    | zero =>
      intro n i s hk hn hi hs
      obtain ⟨m, rfl⟩ : ∃ m, n = m + 1 := ⟨n - 1, by omega⟩
      have : i = a.length := by omega
      subst this
      show F (it F m) _ = _
      rw [hE _ _ hs]; simp
    | succ k ih =>
      intro n i s hk hn hi hs
      obtain ⟨m, rfl⟩ : ∃ m, n = m + 1 := ⟨n - 1, by omega⟩
      show F (it F m) _ = _
      by_cases hi' : i < a.length
      · have hy := List.getElem?_eq_getElem hi'
        rw [hF _ _ _ _ hy hs, ih m (i + 1) _ (by omega) (by omega) hi' (hI _ _ _ hy hs), List.drop_eq_getElem_cons hi', List.foldl_cons]
      · have : i = a.length := by omega
        subst this
        rw [hE _ _ hs]; simp
  have := key a.length BIG 0 s0 (by omega) (by simpa [BIG] using hl) (by omega) h0
  show it F BIG (mk s0 0) = _
  simpa using this
def BA (l : List UInt8) : ByteArray := ⟨l.toArray⟩
theorem BA_data (b : ByteArray) : BA b.data.toList = b := by cases b; rfl
theorem BA_size (l : List UInt8) : (BA l).size = l.length := by
  have h : l.toArray.size = l.length := by simp
  exact h
theorem BA_app (a b : List UInt8) : BA a ++ BA b = BA (a ++ b) := by
  apply ByteArray.ext
  simp [BA, ByteArray.data_append]
theorem BA_get (l : List UInt8) (i : Nat) : (BA l)[i]? = l[i]? := by
  by_cases h : i < l.length
  · rw [getElem?_pos (BA l) i h, List.getElem?_eq_getElem h]
    rfl
  · rw [getElem?_neg (BA l) i h, List.getElem?_eq_none (by omega)]
theorem BA_ext (l : List UInt8) (a b : Nat) : (BA l).extract a b = BA ((l.drop a).take (b - a)) := by
  apply ByteArray.ext
  simp [BA, ByteArray.data_extract]
theorem BA_loop (l : List UInt8) : ∀ (k i : Nat) (r : List UInt8), l.length - i ≤ k → ByteArray.toList.loop (BA l) i r = r.reverse ++ l.drop i := by
  intro k
  induction k with
  | zero =>
    intro i r h
    unfold ByteArray.toList.loop
    rw [if_neg (by rw [BA_size]; omega), List.drop_eq_nil_iff.2 (by omega), List.append_nil]
  | succ k ih =>
    intro i r h
    unfold ByteArray.toList.loop
    by_cases hi : i < l.length
    · rw [if_pos (by rw [BA_size]; exact hi), ih (i + 1) _ (by omega), List.drop_eq_getElem_cons hi]
      have : (BA l).get! i = l[i] := by
        show (BA l).data[i]! = _
        simp [BA, hi]
      rw [this]; simp
    · rw [if_neg (by rw [BA_size]; exact hi), List.drop_eq_nil_iff.2 (by omega), List.append_nil]
theorem BA_toList (l : List UInt8) : (BA l).toList = l := by
  unfold ByteArray.toList
  rw [BA_loop l l.length 0 [] (by omega)]; simp
theorem bytesStr_BA (ns : List Int) : bytesStr ns = BA (ns.map fun n => UInt8.ofNat n.toNat) := by
  have : ∀ (ns : List Int) (l : List UInt8), ns.foldl (fun r n => r.push (UInt8.ofNat n.toNat)) (BA l) = BA (l ++ ns.map fun n => UInt8.ofNat n.toNat) := by
    intro ns
    induction ns with
    | nil => intro l; simp
    | cons n ns ih =>
      intro l
      rw [List.foldl_cons]
      have : (BA l).push (UInt8.ofNat n.toNat) = BA (l ++ [UInt8.ofNat n.toNat]) := by
        apply ByteArray.ext
        simp [BA, ByteArray.push]
      rw [this, ih]; simp
  have := this ns []
  rw [List.nil_append] at this
  exact this
/-- A byte of a number. -/
def by8 (n : Int) : UInt8 := UInt8.ofNat (n % 256).toNat
theorem wrap_u8 (n : Int) : IntKind.wrap .u8 n = n % 256 := by
  simp [IntKind.wrap, IntKind.signed, IntKind.bits]
theorem bytes_by (ns : List Int) : bytesStr (ns.map (IntKind.wrap .u8)) = BA (ns.map by8) := by
  rw [bytesStr_BA, List.map_map]
  rfl
theorem bytes_nn {ns : List Int} (h : ∀ z, z ∈ ns → 0 ≤ z) : bytesStr ns = BA (ns.map by8) := by
  rw [bytesStr_BA]
  congr 1
  apply List.map_congr_left
  intro n hn
  have := h n hn
  unfold by8
  apply UInt8.toNat_inj.1
  simp only [UInt8.toNat_ofNat']
  omega
theorem by8_nat (n : Nat) : by8 (n : Int) = UInt8.ofNat n := by
  unfold by8
  have : ((n : Int) % 256).toNat = n % 256 := by omega
  rw [this]
  apply UInt8.toNat_inj.1
  simp [UInt8.toNat_ofNat]
theorem by8_toNat {n : Nat} (h : n < 256) : (by8 (n : Int)).toNat = n := by
  rw [by8_nat]; simp [UInt8.toNat_ofNat]; omega
theorem by8_of (b : UInt8) : by8 (b.toNat : Int) = b := by
  rw [by8_nat]; simp
def vF : Nat → Nat → List UInt8
  | 0, v => [by8 (v : Int)]
  | k + 1, v => if v ≤ 127 then [by8 (v : Int)] else by8 ((v % 128 + 128 : Nat) : Int) :: vF k (v / 128)
def vB (v : Nat) : List UInt8 := vF 9 v
theorem vF_more : ∀ (k v : Nat), v < 128 ^ (k + 1) → vF (k + 1) v = vF k v
  | 0, v, h => by
    have : v ≤ 127 := by omega
    simp [vF, this]
  | k + 1, v, h => by
    unfold vF
    split
    · rfl
    · congr 1
      apply vF_more k
      rw [Nat.div_lt_iff_lt_mul (by omega)]
      rw [Nat.pow_succ] at h
      exact h
theorem vF_len : ∀ (k v : Nat), (vF k v).length ≤ k + 1
  | 0, v => by simp [vF]
  | k + 1, v => by
    unfold vF
    split
    · simp
    · have := vF_len k (v / 128)
      simp; omega
theorem vB_small {v : Nat} (h : v < 34359738368) : vB v = vF 4 v := by
  unfold vB
  rw [vF_more 8 v (by omega), vF_more 7 v (by omega), vF_more 6 v (by omega), vF_more 5 v (by omega), vF_more 4 v (by omega)]
theorem vB_len {v : Nat} (h : v < 34359738368) : (vB v).length ≤ 5 := by rw [vB_small h]; exact vF_len 4 v
theorem vB_lo {v : Nat} (h : v ≤ 127) : vB v = [by8 (v : Int)] := by simp [vB, vF, h]
theorem vB_hi {v : Nat} (h : 127 < v) (h' : v < 34359738368) : vB v = by8 ((v % 128 + 128 : Nat) : Int) :: vB (v / 128) := by
  rw [vB_small (v := v / 128) (by omega), vB_small h']
  show (if v ≤ 127 then _ else _ :: vF 3 (v / 128)) = _
  rw [if_neg (by omega), ← vF_more 3 (v / 128) (by omega)]
theorem wrapi {n : Nat} (h : n ≤ 9223372036854775807) : IntKind.wrap .i64 (n : Int) = n := wr (by omega) (by omega)
theorem vLoop (v : Nat) (hv : v < 34359738368) {F : (List Int × Int → Option (List Int × Int)) → List Int × Int → Option (List Int × Int)}
    (hF : ∀ self (out : List Int) (x : Nat), x < 34359738368 → out.length ≤ 100 → F self (out, (x : Int)) = if 127 < x then self (out ++ [((x % 128 + 128 : Nat) : Int)], ((x / 128 : Nat) : Int)) else some (out, (x : Int))) :
    ∃ (out : List Int) (x : Nat), loopT BIG F ([], (v : Int)) = some (out, (x : Int)) ∧ out.length ≤ 10 ∧ x ≤ 127 ∧ (out ++ [(x : Int)]).map by8 = vB v ∧ ∀ z, z ∈ out → 0 ≤ z := by
  have key : ∀ (k n : Nat) (out : List Int) (x : Nat), x < 128 ^ (k + 1) → k ≤ 4 → k < n → out.length ≤ 10 - k → (∀ z, z ∈ out → 0 ≤ z) → ∃ (out' : List Int) (x' : Nat), it F n (out, (x : Int)) = some (out', (x' : Int)) ∧ out'.length ≤ 10 ∧ x' ≤ 127 ∧ (out' ++ [(x' : Int)]).map by8 = out.map by8 ++ vB x ∧ ∀ z, z ∈ out' → 0 ≤ z := by
    intro k
    induction k with
    | zero =>
      intro n out x hx hk4 hk ho hz
      obtain ⟨m, rfl⟩ : ∃ m, n = m + 1 := ⟨n - 1, by omega⟩
      refine ⟨out, x, ?_, by omega, by omega, ?_, hz⟩
      · show F (it F m) _ = _
        rw [hF _ _ _ (by omega) (by omega), if_neg (by omega)]
      · rw [vB_lo (by omega)]; simp
    | succ k ih =>
      intro n out x hx hk4 hk ho hz
      obtain ⟨m, rfl⟩ : ∃ m, n = m + 1 := ⟨n - 1, by omega⟩
      have hx5 : x < 34359738368 := Nat.lt_of_lt_of_le hx (Nat.pow_le_pow_right (by omega) (show k + 1 + 1 ≤ 5 by omega))
      by_cases h : 127 < x
      · have hx' : x / 128 < 128 ^ (k + 1) := by
          rw [Nat.div_lt_iff_lt_mul (by omega)]
          rw [Nat.pow_succ] at hx; exact hx
        obtain ⟨out', x', g1, g2, g3, g4, g5⟩ := ih m (out ++ [((x % 128 + 128 : Nat) : Int)]) (x / 128) hx' (by omega) (by omega) (by simp; omega) (fun z hm => by
          rcases List.mem_append.1 hm with hm | hm
          · exact hz z hm
          · rw [List.mem_singleton.1 hm]; omega)
        refine ⟨out', x', ?_, g2, g3, ?_, g5⟩
        · show F (it F m) _ = _
          rw [hF _ _ _ hx5 (by omega), if_pos h]
          exact g1
        · rw [g4, vB_hi h hx5]; simp
      · refine ⟨out, x, ?_, by omega, by omega, ?_, hz⟩
        · show F (it F m) _ = _
          rw [hF _ _ _ hx5 (by omega), if_neg h]
        · rw [vB_lo (by omega)]; simp
  obtain ⟨out, x, h1, h2, h3, h4, h5⟩ := key 4 BIG [] v hv (by omega) (by decide) (by simp) (fun z hz => by cases hz)
  exact ⟨out, x, h1, h2, h3, by simpa using h4, h5⟩
theorem vStep (x : Nat) (hx : x < 34359738368) : IntKind.wrap .u8 (IntKind.wrap .i64 (Int.tmod (x : Int) 128 + 128)) = ((x % 128 + 128 : Nat) : Int) ∧ IntKind.wrap .i64 (Int.tdiv (x : Int) 128) = ((x / 128 : Nat) : Int) := by
  rw [Int.tmod_eq_emod_of_nonneg (by omega), Int.tdiv_eq_ediv_of_nonneg (by omega)]
  constructor
  · rw [wr (by omega) (by omega), wrap_u8]; omega
  · rw [wr (by omega) (by omega)]; omega
theorem vStepF (self1 : List Int × Int → Option (List Int × Int)) (out : List Int) (x : Nat) (hx : x < 34359738368) (ho : out.length ≤ 100) :
    (bif decide ((127 : Int) < (x : Int)) then
     bif decide ((128 : Int) = 0) then
      none
     else bif decide (out.length + ([IntKind.wrap .u8 (IntKind.wrap .i64 ((Int.tmod (x : Int) (128 : Int)) + (128 : Int)))]).length ≤ 4294967296) then
      bif decide ((128 : Int) = 0) then
       none
      else self1 (out ++ ([IntKind.wrap .u8 (IntKind.wrap .i64 ((Int.tmod (x : Int) (128 : Int)) + (128 : Int)))]), IntKind.wrap .i64 (Int.tdiv (x : Int) (128 : Int)))
     else none
    else some (out, (x : Int))) = if 127 < x then self1 (out ++ [((x % 128 + 128 : Nat) : Int)], ((x / 128 : Nat) : Int)) else some (out, (x : Int)) := by
  obtain ⟨s1, s2⟩ := vStep x hx
  simp only [s1, s2]
  rw [decide_eq_true (show out.length + [((x % 128 + 128 : Nat) : Int)].length ≤ 4294967296 by simp; omega)]
  by_cases h : 127 < x
  · rw [decide_eq_true (by omega), if_pos h]; rfl
  · rw [decide_eq_false (by omega), if_neg h]; rfl
theorem vEnd {v x : Nat} {out : List Int} (h3 : x ≤ 127) (h4 : (out ++ [(x : Int)]).map by8 = vB v) (h5 : ∀ z, z ∈ out → 0 ≤ z) : bytesStr (out ++ [IntKind.wrap .u8 (x : Int)]) = BA (vB v) := by
  have : out ++ [IntKind.wrap .u8 (x : Int)] = out ++ [(x : Int)] := by rw [wrap_u8, Int.emod_eq_of_lt (by omega) (by omega)]
  rw [this, bytes_nn (fun z hm => by
    rcases List.mem_append.1 hm with hm | hm
    · exact h5 z hm
    · rw [List.mem_singleton.1 hm]; omega), h4]
theorem w_sl01Var (v : Nat) (hv : v < 34359738368) : g_sl01Var (v : Int) = some (BA (vB v), ()) := by
  show f_sl01Var BIG _ = _
  rw [e_sl01Var]
  obtain ⟨out, x, h1, h2, h3, h4, h5⟩ := vLoop v hv (F := fun self1 x0 =>
    bif decide ((127 : Int) < x0.2) then
     bif decide ((128 : Int) = 0) then
      none
     else bif decide (x0.1.length + ([IntKind.wrap .u8 (IntKind.wrap .i64 ((Int.tmod x0.2 (128 : Int)) + (128 : Int)))]).length ≤ 4294967296) then
      bif decide ((128 : Int) = 0) then
       none
      else self1 (x0.1 ++ ([IntKind.wrap .u8 (IntKind.wrap .i64 ((Int.tmod x0.2 (128 : Int)) + (128 : Int)))]), IntKind.wrap .i64 (Int.tdiv x0.2 (128 : Int)))
     else none
    else some (x0.1, x0.2)) (fun self out x hx ho => vStepF self out x hx ho)
  rw [h1]
  simp only [Option.bind_some]
  rw [decide_eq_true (by simp; omega), cond_true, vEnd h3 h4 h5]
theorem by_1 (x : Int) : bytesStr [IntKind.wrap .u8 x] = BA [by8 x] := bytes_by [x]
theorem w_sl09Byte (v : Int) : g_sl09Byte v = some (BA [by8 v], ()) := by
  show f_sl09Byte BIG _ = _
  rw [e_sl09Byte, by_1]
def flT (b : Bool) : List UInt8 := [if b then 1 else 0]
theorem w_sl09Flag (b : Bool) : g_sl09Flag b = some (BA (flT b), ()) := by
  show f_sl09Flag BIG _ = _
  rw [e_sl09Flag]; cases b <;> rfl
def e2 (e : Ed) : List UInt8 := [by8 e.1, by8 e.2]
def eT (es : List Ed) : List UInt8 := vB es.length ++ es.flatMap e2
theorem flat2_len : ∀ es : List Ed, (es.flatMap e2).length = 2 * es.length
  | [] => rfl
  | e :: es => by rw [List.flatMap_cons, List.length_append, flat2_len es]; simp [e2]; omega
theorem eT_len {es : List Ed} (h : es.length ≤ 66) : (eT es).length ≤ 200 := by
  have := vB_len (v := es.length) (by omega)
  rw [eT, List.length_append, flat2_len]; omega
theorem fold_flat {α : Type} (f : α → List UInt8) : ∀ (l : List α) (s : List UInt8), l.foldl (fun s e => s ++ f e) s = s ++ l.flatMap f
  | [], s => by simp
  | e :: l, s => by rw [List.foldl_cons, fold_flat f l, List.flatMap_cons, List.append_assoc]
theorem w_sl09Edges (es : List Ed) (he : es.length ≤ 66) : g_sl09Edges es = some (BA (eT es), ()) := by
  have hm : maxLen = 9223372036854775807 := by decide
  show f_sl09Edges BIG _ = _
  have h5 := vB_len (v := es.length) (by omega)
  rw [e_sl09Edges, w_sl01Var _ (by omega), Option.bind_some]
  simp only
  rw [foldG es (by omega) (fun (s : List UInt8) i => (BA s, i)) (fun i s => s.length ≤ 5 + 2 * i) (fun s e => s ++ e2 e) BA (s0 := vB es.length) (by simpa using h5) (fun i s y _ h => by simp [e2]; omega), fold_flat]
  · rfl
  · intro self s i y hy hs
    have hi := (List.getElem?_eq_some_iff.1 hy).1
    simp only [show ((i : Int) < (es.length : Int)) from by omega, decide_true, cond_true]
    rw [bnd_nat hi, hy, Option.bind_some, wr1 (by omega), w_sl09Byte, Option.bind_some, BA_app, BA_size, BA_size, decide_eq_true (by simp; omega), cond_true, bnd_nat hi, hy, Option.bind_some, w_sl09Byte, Option.bind_some, BA_app, BA_size, BA_size, decide_eq_true (by simp; omega), cond_true, List.append_assoc]
    rfl
  · intro self s _
    simp
def aT (a : An) : List UInt8 := ((vB a.1.toNat ++ flT a.2.1) ++ eT a.2.2.1) ++ a.2.2.2.map by8
theorem ansB_in {n : Int} {a : An} (h : ansB n a = true) : 1 ≤ n ∧ n ≤ 12 ∧ 1 ≤ a.1 ∧ a.1 ≤ 100000 ∧ eOk n a.2.2.1 = true ∧ (a.2.2.2.length : Int) = n ∧ lbOk n a.2.2.2 = true := by
  unfold ansB at h
  simp only [Bool.and_eq_true, inB_t] at h
  obtain ⟨hn, h1, h2, h3⟩ := h
  have h3' := h3
  unfold lbOk at h3
  split at h3
  · rename_i hl
    exact ⟨hn.1, hn.2, h1.1, h1.2, h2, hl, h3'⟩
  · cases h3
theorem map_flat (l : List Int) : l.flatMap (fun y => [by8 y]) = l.map by8 := by
  induction l with
  | nil => rfl
  | cons y l ih => rw [List.flatMap_cons, ih]; rfl
theorem w_sAnswerText (n : Int) (a : An) (hl : a.2.2.1.length ≤ 1048576) (hl' : a.2.2.2.length ≤ 1048576) : g_sAnswerText (n, a) = some (if ansB n a then (BA (aT a), true) else (BA [], false), ()) := by
  have hm : maxLen = 9223372036854775807 := by decide
  show f_sAnswerText BIG _ = _
  rw [e_sAnswerText, h_sAnswerOk n a hl hl', Option.bind_some]
  cases h : ansB n a with
  | false => rfl
  | true =>
    obtain ⟨a1, a2, a3, a4, a5, a6, _⟩ := ansB_in h
    have h1 := vB_len (v := a.1.toNat) (by omega)
    have h3 := eT_len (eOk_len a5)
    have k1 := w_sl01Var a.1.toNat (by omega)
    rw [Int.toNat_of_nonneg (by omega)] at k1
    simp only [Bool.not_true, cond_false, if_true, k1, w_sl09Flag, w_sl09Edges _ (eOk_len a5), BA_app, BA_size, Option.bind_some]
    rw [decide_eq_true (by simp [flT]; omega), cond_true, decide_eq_true (by simp [flT]; omega), cond_true,
      foldG a.2.2.2 (by omega) (fun (s : List UInt8) i => (BA s, i)) (fun i s => s.length ≤ 300 + i) (fun s y => s ++ [by8 y]) BA (by simp [flT]; omega) (fun i s y _ h => by simp; omega), fold_flat (fun y => [by8 y]), map_flat]
    · rfl
    · intro self s i y hy hs
      have hi := (List.getElem?_eq_some_iff.1 hy).1
      simp only [show ((i : Int) < n) from by omega, decide_true, cond_true]
      rw [bnd_nat hi, hy, Option.bind_some, wr1 (by omega), w_sl09Byte, Option.bind_some, BA_app, BA_size, BA_size, decide_eq_true (by simp; omega)]
      rfl
    · intro self s _
      simp [a6]
/-- A number read off bytes, of which it takes so many at most; and how many it took. -/
def dec : Nat → List UInt8 → Option (Nat × Nat)
  | 0, _ => none
  | _ + 1, [] => none
  | k + 1, b :: l => if b.toNat < 128 then some (b.toNat, 1) else (dec k l).map fun r => (b.toNat - 128 + 128 * r.1, r.2 + 1)
theorem dec_in : ∀ {k : Nat} {l : List UInt8} {v m : Nat}, dec k l = some (v, m) → 1 ≤ m ∧ m ≤ k ∧ m ≤ l.length ∧ v < 128 ^ m
  | 0, _, _, _, h => by simp [dec] at h
  | _ + 1, [], _, _, h => by simp [dec] at h
  | k + 1, b :: l, v, m, h => by
    unfold dec at h
    split at h
    · cases h; simp; omega
    · simp only [Option.map_eq_some_iff] at h
      obtain ⟨⟨v', m'⟩, h1, h2⟩ := h
      cases h2
      obtain ⟨a1, a2, a3, a4⟩ := dec_in h1
      have := b.toNat_lt
      refine ⟨by omega, by omega, by simp; omega, ?_⟩
      rw [Nat.pow_succ]; simp only; omega
theorem dec_zero : ∀ {k : Nat} {l : List UInt8} {m : Nat}, dec k l = some (0, m) → l[m - 1]? = some 0
  | 0, _, _, h => by simp [dec] at h
  | _ + 1, [], _, h => by simp [dec] at h
  | k + 1, b :: l, m, h => by
    unfold dec at h
    split at h
    · simp only [Option.some.injEq, Prod.mk.injEq] at h
      obtain ⟨h1, rfl⟩ := h
      simp only [Nat.sub_self, List.getElem?_cons_zero, Option.some.injEq]
      exact UInt8.toNat_inj.1 h1
    · simp only [Option.map_eq_some_iff] at h
      obtain ⟨⟨v', m'⟩, h1, h2⟩ := h
      simp only [Prod.mk.injEq] at h2
      obtain ⟨h2, rfl⟩ := h2
      have hv : v' = 0 := by omega
      subst hv
      have h3 := dec_zero h1
      have h4 := (dec_in h1).1
      rw [show m' + 1 - 1 = (m' - 1) + 1 from by omega, List.getElem?_cons_succ]
      exact h3
theorem dec_one {k : Nat} {l : List UInt8} {v : Nat} (h : dec k l = some (v, 1)) : ∃ b, l[0]? = some b ∧ b.toNat = v := by
  cases k with
  | zero => simp [dec] at h
  | succ k =>
    cases l with
    | nil => simp [dec] at h
    | cons b l =>
      unfold dec at h
      split at h
      · cases h; exact ⟨b, rfl, rfl⟩
      · simp only [Option.map_eq_some_iff] at h
        obtain ⟨⟨v', m'⟩, h1, h2⟩ := h
        simp only [Prod.mk.injEq] at h2
        have := (dec_in h1).1
        omega
theorem dec_form : ∀ {k : Nat} {l : List UInt8} {v m : Nat}, k ≤ 5 → dec k l = some (v, m) → (vB v = l.take m ↔ (m = 1 ∨ l[m - 1]? ≠ some 0))
  | 0, _, _, _, _, h => by simp [dec] at h
  | _ + 1, [], _, _, _, h => by simp [dec] at h
  | k + 1, b :: l, v, m, hk, h => by
    have hin := dec_in h
    unfold dec at h
    split at h
    · cases h
      rename_i hb
      rw [vB_lo (by omega), by8_of]
      simp
    · rename_i hb
      simp only [Option.map_eq_some_iff] at h
      obtain ⟨⟨v', m'⟩, h1, h2⟩ := h
      simp only [Prod.mk.injEq] at h2
      obtain ⟨rfl, rfl⟩ := h2
      have hb' := b.toNat_lt
      obtain ⟨a1, a2, a3, a4⟩ := dec_in h1
      have hlt : v' < 34359738368 := Nat.lt_of_lt_of_le a4 (Nat.pow_le_pow_right (by omega) (show m' ≤ 5 by omega))
      have ih := dec_form (show k ≤ 5 by omega) h1
      have hlt2 : b.toNat - 128 + 128 * v' < 34359738368 := Nat.lt_of_lt_of_le hin.2.2.2 (Nat.pow_le_pow_right (by omega) (show m' + 1 ≤ 5 by omega))
      have e1 : (b :: l)[m' + 1 - 1]? = l[m' - 1]? := by rw [show m' + 1 - 1 = (m' - 1) + 1 from by omega, List.getElem?_cons_succ]
      rw [e1, List.take_succ_cons]
      by_cases hs : b.toNat - 128 + 128 * v' ≤ 127
      · have hv : v' = 0 := by omega
        subst hv
        have h0 := dec_zero h1
        rw [vB_lo hs, h0]
        constructor
        · intro h
          have := congrArg List.length h
          rw [List.length_cons, List.length_nil, List.length_cons, List.length_take] at this
          omega
        · rintro (h | h)
          · omega
          · exact absurd rfl h
      · rw [vB_hi (by omega) hlt2]
        have q1 : (b.toNat - 128 + 128 * v') % 128 + 128 = b.toNat := by omega
        have q2 : (b.toNat - 128 + 128 * v') / 128 = v' := by omega
        rw [q1, q2, by8_of, List.cons.injEq]
        simp only [true_and, ih]
        constructor
        · rintro (h | h)
          · subst h
            obtain ⟨c, hc1, hc2⟩ := dec_one h1
            right
            simp only [Nat.sub_self, hc1, ne_eq, Option.some.injEq]
            rintro rfl
            have : v' = 0 := by rw [← hc2]; rfl
            omega
          · exact .inr h
        · rintro (h | h)
          · omega
          · exact .inr h
/-- What is read there, when it is a number in its own bytes. -/
def rdV (l : List UInt8) : Option (Nat × Nat) := match dec 5 l with
  | some (v, m) => if v ≤ 1000000000 ∧ vB v = l.take m then some (v, m) else none
  | none => none
theorem rdV_in {l : List UInt8} {v m : Nat} (h : rdV l = some (v, m)) : v ≤ 1000000000 ∧ vB v = l.take m ∧ 1 ≤ m ∧ m ≤ 5 ∧ m ≤ l.length := by
  unfold rdV at h
  split at h
  · rename_i v' m' hd
    split at h
    · rename_i hc
      cases h
      obtain ⟨a1, a2, a3, a4⟩ := dec_in hd
      exact ⟨hc.1, hc.2, a1, a2, a3⟩
    · cases h
  · cases h
/-- A loop that reads a number. -/
theorem rvLoop (T : List UInt8) (a : Nat) {B : Type} {F : (Int × Int × Int → Option B) → Int × Int × Int → Option B} (z : B) (fin : Nat → Nat → B)
    (hF : ∀ self (acc u i : Nat) b, T[i]? = some b → a ≤ i → i < a + 5 → acc < 268435456 → u ≤ 268435456 → F self ((acc : Int), (u : Int), (i : Int)) = if b.toNat < 128 then some (fin (acc + b.toNat * u) i) else self (((acc + (b.toNat - 128) * u : Nat) : Int), ((u * 128 : Nat) : Int), ((i + 1 : Nat) : Int)))
    (hE : ∀ self (acc u i : Nat), (T[i]? = none ∨ i = a + 5) → a ≤ i → F self ((acc : Int), (u : Int), (i : Int)) = some z) :
    loopT BIG F (0, 1, (a : Int)) = some (match dec 5 (T.drop a) with | some (v, m) => fin v (a + m - 1) | none => z) := by
  have key : ∀ (k n j acc : Nat), j + k = 5 → k < n → acc < 128 ^ j → it F n ((acc : Int), ((128 ^ j : Nat) : Int), ((a + j : Nat) : Int)) = some (match dec k (T.drop (a + j)) with | some (v, m) => fin (acc + 128 ^ j * v) (a + j + m - 1) | none => z) := by
    intro k
    induction k with
    | zero =>
      intro n j acc hj hn ha
      obtain ⟨m, rfl⟩ : ∃ m, n = m + 1 := ⟨n - 1, by omega⟩
      show F (it F m) _ = _
      rw [hE _ _ _ _ (.inr (by omega)) (by omega)]
      rfl
    | succ k ih =>
      intro n j acc hj hn ha
      obtain ⟨m, rfl⟩ : ∃ m, n = m + 1 := ⟨n - 1, by omega⟩
      show F (it F m) _ = _
      have hp : 128 ^ j ≤ 268435456 := Nat.pow_le_pow_right (by omega) (show j ≤ 4 by omega)
      cases hb : T[a + j]? with
      | none =>
        rw [hE _ _ _ _ (.inl hb) (by omega)]
        have : T.drop (a + j) = [] := List.drop_eq_nil_iff.2 (by simpa using hb)
        rw [this]; rfl
      | some b =>
        have hi := (List.getElem?_eq_some_iff.1 hb).1
        have hbl := b.toNat_lt
        have hd : T.drop (a + j) = b :: T.drop (a + (j + 1)) := by
          rw [List.drop_eq_getElem_cons hi]
          congr 1
          exact (List.getElem?_eq_some_iff.1 hb).2
        rw [hF _ _ _ _ b hb (by omega) (by omega) (by omega) hp, hd]
        unfold dec
        split
        · simp only [Nat.add_sub_cancel]
          rw [Nat.mul_comm]
        · have := ih m (j + 1) (acc + (b.toNat - 128) * 128 ^ j) (by omega) (by omega) (by
            rw [Nat.pow_succ]
            have : (b.toNat - 128) * 128 ^ j ≤ 127 * 128 ^ j := Nat.mul_le_mul_right _ (by omega)
            omega)
          rw [Nat.pow_succ] at this
          rw [show a + j + 1 = a + (j + 1) from by omega, this]
          cases dec k (T.drop (a + (j + 1))) with
          | none => rfl
          | some r =>
            obtain ⟨v, m⟩ := r
            simp only [Option.map_some]
            congr 2
            · rw [Nat.mul_add, Nat.mul_comm (128 ^ j) (b.toNat - 128), Nat.mul_assoc]
              omega
            · omega
  have := key 5 BIG 0 0 (by omega) (by decide) (by simp)
  show it F BIG _ = _
  simpa using this
/-- What reading a number gives. -/
def rvR (T : List UInt8) (a : Int) : Int × Int × Bool :=
  if inB a 0 (T.length : Int) then (match rdV (T.drop a.toNat) with | some (v, m) => ((v : Int), a + (m : Int), true) | none => (0, 0, false)) else (0, 0, false)
theorem w_iReadVar (T : List UInt8) (a : Int) (hl : T.length ≤ 2097152) : g_iReadVar (BA T, a) = some (rvR T a, ()) := by
  show f_iReadVar BIG _ = _
  rw [e_iReadVar, h_iin', Option.bind_some, BA_size]
  unfold rvR
  cases ha : inB a 0 (T.length : Int) with
  | false => rfl
  | true =>
    rw [inB_t] at ha
    obtain ⟨a, rfl⟩ : ∃ b : Nat, a = b := ⟨a.toNat, by omega⟩
    simp only [Bool.not_true, cond_false, if_true, Int.toNat_natCast]
    rw [rvLoop T a (z := .inl ()) (fun v i => if (T[i]? = some 0 ∧ a < i) ∨ 1000000000 < v then .inl () else .inr ((v : Int), (i : Int) + 1, true))]
    · unfold rdV
      cases hd : dec 5 (T.drop a) with
      | none => rfl
      | some r =>
        obtain ⟨v, m⟩ := r
        have hf := dec_form (by omega) hd
        obtain ⟨a1, a2, a3, a4⟩ := dec_in hd
        rw [List.getElem?_drop, show a + (m - 1) = a + m - 1 from by omega] at hf
        simp only
        by_cases hc : (T[a + m - 1]? = some 0 ∧ a < a + m - 1) ∨ 1000000000 < v
        · rw [if_pos hc, if_neg]
          · rfl
          · rintro ⟨h1, h2⟩
            have := hf.1 h2
            rcases hc with ⟨hc1, hc2⟩ | hc
            · rcases this with h | h
              · omega
              · exact h hc1
            · omega
        · rw [if_neg hc, if_pos]
          · rw [show ((a + m - 1 : Nat) : Int) + 1 = (a : Int) + (m : Int) from by omega]
            rfl
          · refine ⟨Nat.le_of_not_lt fun h => hc (.inr h), hf.2 ?_⟩
            by_cases hm : m = 1
            · exact .inl hm
            · exact .inr fun h => hc (.inl ⟨h, by omega⟩)
    · intro self acc u i b hb hai hia hacc hu
      have hi := (List.getElem?_eq_some_iff.1 hb).1
      have hbl := b.toNat_lt
      have hbu : b.toNat * u ≤ 255 * 268435456 := Nat.mul_le_mul (by omega) hu
      have hml : maxLen = 9223372036854775807 := by decide
      simp only [show ((i : Int) < (T.length : Int)) from by omega, decide_true, cond_true, Option.bind_some]
      rw [wr (n := (a : Int) + 5) (by omega) (by omega), decide_eq_true (show (i : Int) < (a : Int) + 5 from by omega), cond_true, bnd_nat hi, BA_get, hb, Option.bind_some]
      rw [show decide ((128 : Int) = 0) = false from rfl, cond_false, wr (n := (b.toNat : Int)) (by omega) (by omega)]
      rw [Int.tmod_eq_emod_of_nonneg (by omega)]
      by_cases h : b.toNat < 128
      · have e1 : (b.toNat : Int) % 128 = (b.toNat : Int) := by omega
        have e2 : (b.toNat : Int) * (u : Int) = ((b.toNat * u : Nat) : Int) := by simp
        rw [decide_eq_true (by omega), cond_true, if_pos h, e1, e2, wrapi (by omega), show ((acc : Int) + ((b.toNat * u : Nat) : Int)) = ((acc + b.toNat * u : Nat) : Int) from by omega, wrapi (by omega), wr1 (by omega)]
        have hz : some b = some 0 ↔ b.toNat = 0 := by
          rw [Option.some.injEq]
          constructor
          · rintro rfl; rfl
          · intro h; exact UInt8.toNat_inj.1 h
        by_cases c1 : b.toNat = 0
        · rw [decide_eq_true (by omega), cond_true]
          by_cases c2 : a < i
          · rw [decide_eq_true (by omega)]
            simp only [cond_true, Option.bind_some]
            rw [if_pos (.inl ⟨hz.2 c1, c2⟩)]
          · rw [decide_eq_false (by omega)]
            simp only [cond_false, Option.bind_some]
            by_cases c3 : 1000000000 < acc + b.toNat * u
            · rw [decide_eq_true (by omega), if_pos (.inr c3)]; rfl
            · rw [decide_eq_false (by omega), if_neg (by rintro (h | h) <;> omega)]; rfl
        · rw [decide_eq_false (by omega)]
          simp only [cond_false, Option.bind_some]
          by_cases c3 : 1000000000 < acc + b.toNat * u
          · rw [decide_eq_true (by omega), if_pos (.inr c3)]; rfl
          · rw [decide_eq_false (by omega), if_neg (by
              rintro (⟨h, _⟩ | h)
              · exact c1 (hz.1 h)
              · omega)]; rfl
      · have e1 : (b.toNat : Int) % 128 = ((b.toNat - 128 : Nat) : Int) := by omega
        have e2 : ((b.toNat - 128 : Nat) : Int) * (u : Int) = (((b.toNat - 128) * u : Nat) : Int) := by simp
        have hb2 : (b.toNat - 128) * u ≤ b.toNat * u := Nat.mul_le_mul_right _ (by omega)
        rw [decide_eq_false (by omega), cond_false, if_neg h, e1, e2, wrapi (by omega), show ((acc : Int) + (((b.toNat - 128) * u : Nat) : Int)) = ((acc + (b.toNat - 128) * u : Nat) : Int) from by omega, wrapi (by omega), wr1 (by omega), show (u : Int) * 128 = ((u * 128 : Nat) : Int) from by simp, wrapi (by omega)]
    · intro self acc u i hi hai
      simp only
      by_cases c : (i : Int) < (T.length : Int)
      · rcases hi with hi | hi
        · rw [List.getElem?_eq_none_iff] at hi; omega
        · rw [decide_eq_true c, cond_true, wr (n := (a : Int) + 5) (by omega) (by omega), decide_eq_false (by omega)]; rfl
      · rw [decide_eq_false c]; rfl
theorem w_sReadVar (T : List UInt8) (a : Int) (hl : T.length ≤ 2097152) : g_sReadVar (BA T, a) = some (rvR T a, ()) := by
  show f_sReadVar BIG _ = _
  rw [e_sReadVar, h_sl01In', Option.bind_some, BA_size]
  unfold rvR
  cases ha : inB a 0 (T.length : Int) with
  | false => rfl
  | true =>
    rw [inB_t] at ha
    obtain ⟨a, rfl⟩ : ∃ b : Nat, a = b := ⟨a.toNat, by omega⟩
    simp only [Bool.not_true, cond_false, if_true, Int.toNat_natCast]
    rw [rvLoop T a (z := .inl ()) (fun v i => if 1000000000 < v ∨ vB v ≠ (T.drop a).take (i + 1 - a) then .inr (0, 0, false) else .inr ((v : Int), (i : Int) + 1, true))]
    · unfold rdV
      cases hd : dec 5 (T.drop a) with
      | none => rfl
      | some r =>
        obtain ⟨v, m⟩ := r
        obtain ⟨a1, a2, a3, a4⟩ := dec_in hd
        simp only
        rw [show a + m - 1 + 1 - a = m from by omega]
        by_cases hc : 1000000000 < v ∨ vB v ≠ (T.drop a).take m
        · rw [if_pos hc, if_neg]
          · rfl
          · rintro ⟨h1, h2⟩
            rcases hc with hc | hc
            · omega
            · exact hc h2
        · rw [if_neg hc, if_pos]
          · rw [show ((a + m - 1 : Nat) : Int) + 1 = (a : Int) + (m : Int) from by omega]
            rfl
          · refine ⟨Nat.le_of_not_lt fun h => hc (.inl h), Classical.byContradiction fun h => hc (.inr h)⟩
    · intro self acc u i b hb hai hia hacc hu
      have hi := (List.getElem?_eq_some_iff.1 hb).1
      have hbl := b.toNat_lt
      have hbu : b.toNat * u ≤ 255 * 268435456 := Nat.mul_le_mul (by omega) hu
      have hml : maxLen = 9223372036854775807 := by decide
      simp only [show ((i : Int) < (T.length : Int)) from by omega, decide_true, cond_true, Option.bind_some]
      rw [wr (n := (a : Int) + 5) (by omega) (by omega), decide_eq_true (show (i : Int) < (a : Int) + 5 from by omega), cond_true, bnd_nat hi, BA_get, hb, Option.bind_some]
      rw [show decide ((128 : Int) = 0) = false from rfl, cond_false, bnd_nat hi, BA_get, hb, Option.bind_some, wr (n := (b.toNat : Int)) (by omega) (by omega)]
      rw [Int.tmod_eq_emod_of_nonneg (by omega)]
      by_cases h : b.toNat < 128
      · have e1 : (b.toNat : Int) % 128 = (b.toNat : Int) := by omega
        have e2 : (b.toNat : Int) * (u : Int) = ((b.toNat * u : Nat) : Int) := by simp
        have hu5 : acc + b.toNat * u < 34359738368 := by
          have : b.toNat * u ≤ 127 * 268435456 := Nat.mul_le_mul (by omega) hu
          omega
        rw [decide_eq_true (by omega), cond_true, if_pos h, e1, e2, wrapi (by omega), show ((acc : Int) + ((b.toNat * u : Nat) : Int)) = ((acc + b.toNat * u : Nat) : Int) from by omega, wrapi (by omega), wr1 (by omega)]
        by_cases c3 : 1000000000 < acc + b.toNat * u
        · rw [decide_eq_true (by omega), if_pos (.inl c3)]; rfl
        · rw [decide_eq_false (by omega), cond_false, w_sl01Var _ hu5, Option.bind_some, decide_eq_true (by omega), cond_true]
          simp only [Int.toNat_natCast, BA_ext, BA_toList, Option.bind_some]
          by_cases c4 : vB (acc + b.toNat * u) = (T.drop a).take (i + 1 - a)
          · rw [if_neg (by rintro (h | h); omega; exact h c4), c4, beq_self_eq_true]; rfl
          · rw [if_pos (.inr c4), beq_eq_false_iff_ne.2 c4]; rfl
      · have e1 : (b.toNat : Int) % 128 = ((b.toNat - 128 : Nat) : Int) := by omega
        have e2 : ((b.toNat - 128 : Nat) : Int) * (u : Int) = (((b.toNat - 128) * u : Nat) : Int) := by simp
        have hb2 : (b.toNat - 128) * u ≤ b.toNat * u := Nat.mul_le_mul_right _ (by omega)
        rw [decide_eq_false (by omega), cond_false, if_neg h, e1, e2, wrapi (by omega), show ((acc : Int) + (((b.toNat - 128) * u : Nat) : Int)) = ((acc + (b.toNat - 128) * u : Nat) : Int) from by omega, wrapi (by omega), wr1 (by omega), show (u : Int) * 128 = ((u * 128 : Nat) : Int) from by simp, wrapi (by omega)]
    · intro self acc u i hi hai
      simp only
      by_cases c : (i : Int) < (T.length : Int)
      · rcases hi with hi | hi
        · rw [List.getElem?_eq_none_iff] at hi; omega
        · rw [decide_eq_true c, cond_true, wr (n := (a : Int) + 5) (by omega) (by omega), decide_eq_false (by omega)]; rfl
      · rw [decide_eq_false c]; rfl
abbrev St := Nat × Bool
def nm (T : List UInt8) (s : St) : Int × St :=
  if s.2 then (0, (s.1, true)) else match rdV (T.drop s.1) with
  | some (v, m) => ((v : Int), (s.1 + m, false))
  | none => (0, (s.1, true))
def on (T : List UInt8) (s : St) : Int × St :=
  if s.2 then (0, (s.1, true)) else match T[s.1]? with
  | some b => ((b.toNat : Int), (s.1 + 1, false))
  | none => (0, (s.1, true))
theorem nm_le {T : List UInt8} {s : St} (h : s.1 ≤ T.length) : (nm T s).2.1 ≤ T.length := by
  unfold nm
  split
  · exact h
  · split
    · rename_i v m hd
      have := (rdV_in hd).2.2.2.2
      rw [List.length_drop] at this
      simp only; omega
    · exact h
theorem on_le {T : List UInt8} {s : St} (h : s.1 ≤ T.length) : (on T s).2.1 ≤ T.length := by
  unfold on
  split
  · exact h
  · split
    · rename_i b hb
      exact (List.getElem?_eq_some_iff.1 hb).1
    · exact h
theorem nm_bad {T : List UInt8} {s : St} (h : (nm T s).2.2 = false) : s.2 = false := by
  unfold nm at h
  split at h
  · simp at h
  · rename_i hs; simpa using hs
theorem on_bad {T : List UInt8} {s : St} (h : (on T s).2.2 = false) : s.2 = false := by
  unfold on at h
  split at h
  · simp at h
  · rename_i hs; simpa using hs
/-- What was read stands there. -/
theorem nm_take {T : List UInt8} {s : St} (hs : s.1 ≤ T.length) (h : (nm T s).2.2 = false) : T.take (nm T s).2.1 = T.take s.1 ++ vB (nm T s).1.toNat ∧ 0 ≤ (nm T s).1 ∧ (nm T s).1 ≤ 1000000000 := by
  have hb := nm_bad h
  unfold nm at h ⊢
  rw [if_neg (by simp [hb])] at h ⊢
  split at h
  · rename_i v m hd
    have hi := rdV_in hd
    simp only [hd]
    refine ⟨?_, by omega, by omega⟩
    rw [Int.toNat_natCast, hi.2.1, List.take_add]
  · simp at h
theorem on_take {T : List UInt8} {s : St} (h : (on T s).2.2 = false) : T.take (on T s).2.1 = T.take s.1 ++ [by8 (on T s).1] ∧ 0 ≤ (on T s).1 ∧ (on T s).1 ≤ 255 ∧ (on T s).2.1 = s.1 + 1 := by
  have hb := on_bad h
  unfold on at h ⊢
  rw [if_neg (by simp [hb])] at h ⊢
  split at h
  · rename_i b hb'
    simp only [hb']
    have := b.toNat_lt
    refine ⟨?_, by omega, by omega, trivial⟩
    rw [by8_of, List.take_add_one, hb']
    rfl
  · simp at h
theorem w_ireader_num (T : List UInt8) (s : St) (hs : s.1 ≤ T.length) (hl : T.length ≤ 2097152) : g_ireader_num (BA T, (s.1 : Int), s.2) = some ((nm T s).1, (BA T, ((nm T s).2.1 : Int), (nm T s).2.2)) := by
  show f_ireader_num BIG _ = _
  rw [e_ireader_num]
  dsimp only
  rw [w_iReadVar T _ hl, Option.bind_some]
  unfold rvR nm
  rw [show inB (s.1 : Int) 0 (T.length : Int) = true from inB_t.2 (by omega), if_pos rfl, Int.toNat_natCast]
  cases s.2 with
  | true => rfl
  | false =>
    cases rdV (T.drop s.1) with
    | none => rfl
    | some r => rfl
theorem w_sl09Var (T : List UInt8) (s : St) (hs : s.1 ≤ T.length) (hl : T.length ≤ 2097152) : g_sl09Var (BA T, (s.1 : Int), s.2) = some ((nm T s).1, (BA T, ((nm T s).2.1 : Int), (nm T s).2.2)) := by
  show f_sl09Var BIG _ = _
  rw [e_sl09Var]
  dsimp only
  rw [w_sReadVar T _ hl, Option.bind_some]
  unfold rvR nm
  rw [show inB (s.1 : Int) 0 (T.length : Int) = true from inB_t.2 (by omega), if_pos rfl, Int.toNat_natCast]
  cases s.2 with
  | true => rfl
  | false =>
    cases rdV (T.drop s.1) with
    | none => rfl
    | some r => rfl
theorem w_ireader_one (T : List UInt8) (s : St) (hs : s.1 ≤ T.length) (hl : T.length ≤ 2097152) : g_ireader_one (BA T, (s.1 : Int), s.2) = some ((on T s).1, (BA T, ((on T s).2.1 : Int), (on T s).2.2)) := by
  show f_ireader_one BIG _ = _
  rw [e_ireader_one]
  dsimp only
  rw [BA_size]
  unfold on
  cases hb : s.2 with
  | true => rfl
  | false =>
    simp only [cond_false, Option.bind_some, Bool.false_eq_true, if_false]
    by_cases h : s.1 < T.length
    · rw [decide_eq_false (by omega), cond_false, wr (n := (s.1 : Int) + 1) (by omega) (by omega), wr (by omega) (by omega), show (s.1 : Int) + 1 - 1 = (s.1 : Int) from by omega, bnd_nat h, BA_get, List.getElem?_eq_getElem h]
      have := (T[s.1]).toNat_lt
      simp only [Option.bind_some]
      rw [wr (by omega) (by omega)]
      rfl
    · rw [decide_eq_true (by omega), List.getElem?_eq_none (by omega)]; rfl
theorem w_sl09One (T : List UInt8) (s : St) (hs : s.1 ≤ T.length) (hl : T.length ≤ 2097152) : g_sl09One (BA T, (s.1 : Int), s.2) = some ((on T s).1, (BA T, ((on T s).2.1 : Int), (on T s).2.2)) := by
  show f_sl09One BIG _ = _
  rw [e_sl09One]
  have ht : g_sl09Take ((BA T, (s.1 : Int), s.2), 1) = f_sl09Take BIG ((BA T, (s.1 : Int), s.2), 1) := rfl
  rw [ht, e_sl09Take]
  dsimp only
  rw [BA_size]
  unfold on
  cases hb : s.2 with
  | true => rfl
  | false =>
    simp only [cond_false, Option.bind_some, Bool.false_eq_true, if_false]
    rw [wr (n := (T.length : Int) - (s.1 : Int)) (by omega) (by omega)]
    by_cases h : s.1 < T.length
    · rw [decide_eq_false (by omega), cond_false, wr (n := (s.1 : Int) + 1) (by omega) (by omega), wr (n := (s.1 : Int) + 1 - 1) (by omega) (by omega), decide_eq_true (by omega)]
      simp only [cond_true, Option.bind_some, cond_false, BA_ext]
      rw [show ((s.1 : Int) + 1 - 1).toNat = s.1 from by omega, show ((s.1 : Int) + 1).toNat = s.1 + 1 from by omega, List.getElem?_eq_getElem h, BA_size]
      have h1 : ((T.drop s.1).take (s.1 + 1 - s.1)).length = 1 := by simp; omega
      rw [h1]
      have h2 : (BA ((T.drop s.1).take (s.1 + 1 - s.1)))[0]? = some T[s.1] := by
        rw [BA_get, List.getElem?_take_of_lt (by omega), List.getElem?_drop, Nat.add_zero, List.getElem?_eq_getElem h]
      have hbd : ∀ {B : Type} (k : Nat → Option B), bnd 1 (0 : Int) k = k 0 := fun k => rfl
      rw [hbd, h2]
      have := (T[s.1]).toNat_lt
      simp only [Option.bind_some]
      rw [wr (by omega) (by omega)]
      rfl
    · rw [decide_eq_true (by omega), List.getElem?_eq_none (by omega)]; rfl
def edF (T : List UInt8) : Nat → St → List Ed → St × List Ed
  | 0, s, out => (s, out)
  | k + 1, s, out => if s.2 then (s, out) else edF T k (on T (on T s).2).2 (out ++ [((on T s).1, (on T (on T s).2).1)])
theorem edF_spec (T : List UInt8) : ∀ (k : Nat) (s : St) (out : List Ed), s.1 ≤ T.length → (edF T k s out).1.1 ≤ T.length ∧ ((edF T k s out).1.2 = false → s.2 = false ∧ ∃ es, (edF T k s out).2 = out ++ es ∧ es.length = k ∧ T.take (edF T k s out).1.1 = T.take s.1 ++ es.flatMap e2)
  | 0, s, out, h => ⟨h, fun hb => ⟨hb, [], by simp [edF]⟩⟩
  | k + 1, s, out, h => by
    unfold edF
    cases hs : s.2 with
    | true => exact ⟨h, fun hb => by rw [if_pos rfl] at hb; rw [hs] at hb; cases hb⟩
    | false =>
      simp only [Bool.false_eq_true, if_false]
      have h1 := on_le h
      have h2 := on_le h1
      obtain ⟨a1, a2⟩ := edF_spec T k (on T (on T s).2).2 (out ++ [((on T s).1, (on T (on T s).2).1)]) h2
      refine ⟨a1, fun hb => ⟨trivial, ?_⟩⟩
      obtain ⟨b1, es, b2, b3, b4⟩ := a2 hb
      have c1 := on_take b1
      have c2 := on_take (on_bad b1)
      refine ⟨((on T s).1, (on T (on T s).2).1) :: es, by rw [b2]; simp, by simp [b3], ?_⟩
      rw [b4, c1.1, c2.1, List.flatMap_cons]
      simp [e2]
theorem edLoop (T : List UInt8) (hl : T.length ≤ 2097152) {X : Type} {F : (X → Option ((ByteArray × Int × Bool) × List Ed)) → X → Option ((ByteArray × Int × Bool) × List Ed)} (mk : St → List Ed → Nat → X) (K : Nat)
    (hF : ∀ self (s : St) (out : List Ed) (k : Nat), k + 1 ≤ K → s.1 ≤ T.length → (s.2 = false → out.length ≤ s.1) → F self (mk s out (k + 1)) = if s.2 then some ((BA T, (s.1 : Int), s.2), out) else self (mk (on T (on T s).2).2 (out ++ [((on T s).1, (on T (on T s).2).1)]) k))
    (hE : ∀ self (s : St) (out : List Ed), F self (mk s out 0) = some ((BA T, (s.1 : Int), s.2), out)) :
    ∀ (k n : Nat) (s : St) (out : List Ed), k ≤ K → k < n → s.1 ≤ T.length → (s.2 = false → out.length ≤ s.1) → it F n (mk s out k) = some ((BA T, ((edF T k s out).1.1 : Int), (edF T k s out).1.2), (edF T k s out).2)
  | 0, n, s, out, hk, hn, hs, ho => by
    obtain ⟨m, rfl⟩ : ∃ m, n = m + 1 := ⟨n - 1, by omega⟩
    exact hE _ _ _
  | k + 1, n, s, out, hk, hn, hs, ho => by
    obtain ⟨m, rfl⟩ : ∃ m, n = m + 1 := ⟨n - 1, by omega⟩
    show F (it F m) _ = _
    rw [hF _ _ _ _ hk hs ho]
    unfold edF
    cases hb : s.2 with
    | true => simp [hb]
    | false =>
      simp only [Bool.false_eq_true, if_false]
      refine edLoop T hl mk K hF hE k m _ _ (by omega) (by omega) (on_le (on_le hs)) (fun h => ?_)
      have h1 := (on_take h).2.2.2
      have h2 := (on_take (on_bad h)).2.2.2
      have := ho hb
      simp; omega
theorem nm_nn (T : List UInt8) (s : St) : 0 ≤ (nm T s).1 ∧ (nm T s).1 ≤ 1000000000 := by
  unfold nm
  split
  · simp
  · split
    · rename_i v m hd
      have := (rdV_in hd).1
      simp only; omega
    · simp
theorem w_ireader_edges (T : List UInt8) (s : St) (hs : s.1 ≤ T.length) (hl : T.length ≤ 2097152) : g_ireader_edges (BA T, (s.1 : Int), s.2) =
    some ((edF T (nm T s).1.toNat (nm T s).2 []).2, (BA T, ((edF T (nm T s).1.toNat (nm T s).2 []).1.1 : Int), (edF T (nm T s).1.toNat (nm T s).2 []).1.2)) := by
  show f_ireader_edges BIG _ = _
  rw [e_ireader_edges, w_ireader_num T s hs hl, Option.bind_some]
  have hnn := nm_nn T s
  obtain ⟨k, hk⟩ : ∃ k : Nat, (nm T s).1 = k := ⟨(nm T s).1.toNat, by omega⟩
  simp only
  rw [hk, Int.toNat_natCast]
  have L := edLoop T hl (F := fun self2 x1 =>
    Option.bind (bif decide ((0 : Int) < x1.2.2) then
      some !x1.1.2.2
     else some false : Option (Bool)) fun x3 =>
    bif x3 then
     Option.bind (g_ireader_one x1.1) fun r4 =>
     Option.bind (g_ireader_one r4.2) fun r5 =>
     bif decide (x1.2.1.length + ([(r4.1, r5.1)]).length ≤ 4294967296) then
      self2 (r5.2, x1.2.1 ++ ([(r4.1, r5.1)]), IntKind.wrap .i64 (x1.2.2 - (1 : Int)))
     else none
    else some (x1.1, x1.2.1)) (fun s out k => ((BA T, (s.1 : Int), s.2), out, (k : Int))) 1000000000 (by
    intro self s out k hk hs ho
    simp only [show (0 : Int) < ((k + 1 : Nat) : Int) from by omega, decide_true, cond_true, Option.bind_some]
    cases hb : s.2 with
    | true => rfl
    | false =>
      have := ho hb
      simp only [Bool.not_false, cond_true, Bool.false_eq_true, if_false]
      rw [← hb, w_ireader_one T s hs hl, Option.bind_some, w_ireader_one T _ (on_le hs) hl, Option.bind_some, decide_eq_true (by simp; omega), cond_true, wr (by omega) (by omega), show ((k + 1 : Nat) : Int) - 1 = (k : Int) from by omega]) (by
    intro self s out
    simp) k BIG (nm T s).2 [] (by omega) (by simp [BIG]; omega) (nm_le hs) (by simp)
  unfold loopT
  rw [L]
  rfl
theorem w_sl09ReadEdges (T : List UInt8) (s : St) (hs : s.1 ≤ T.length) (hl : T.length ≤ 2097152) : g_sl09ReadEdges (BA T, (s.1 : Int), s.2) =
    some ((edF T (min (nm T s).1.toNat 100) (nm T s).2 []).2, (BA T, ((edF T (min (nm T s).1.toNat 100) (nm T s).2 []).1.1 : Int), (edF T (min (nm T s).1.toNat 100) (nm T s).2 []).1.2)) := by
  show f_sl09ReadEdges BIG _ = _
  rw [e_sl09ReadEdges, w_sl09Var T s hs hl, Option.bind_some]
  have hnn := nm_nn T s
  obtain ⟨N, hN⟩ : ∃ k : Nat, (nm T s).1 = k := ⟨(nm T s).1.toNat, by omega⟩
  simp only
  rw [hN, Int.toNat_natCast]
  have L := edLoop T hl (F := fun self2 x1 =>
    Option.bind (bif decide (x1.2.2 < (N : Int)) then
      bif decide (x1.2.2 < (100 : Int)) then
       some !x1.1.2.2
      else some false
     else some false : Option (Bool)) fun x3 =>
    bif x3 then
     Option.bind (g_sl09One x1.1) fun r4 =>
     Option.bind (g_sl09One r4.2) fun r5 =>
     bif decide (x1.2.1.length + ([(r4.1, r5.1)]).length ≤ 4294967296) then
      self2 (r5.2, x1.2.1 ++ ([(r4.1, r5.1)]), IntKind.wrap .i64 (x1.2.2 + (1 : Int)))
     else none
    else some (x1.1, x1.2.1)) (fun s out k => ((BA T, (s.1 : Int), s.2), out, ((min N 100 : Nat) : Int) - (k : Int))) (min N 100) (by
    intro self s out k hk hs ho
    simp only [show ((min N 100 : Nat) : Int) - ((k + 1 : Nat) : Int) < (N : Int) from by omega, show ((min N 100 : Nat) : Int) - ((k + 1 : Nat) : Int) < 100 from by omega, decide_true, cond_true, Option.bind_some]
    cases hb : s.2 with
    | true => rfl
    | false =>
      have := ho hb
      simp only [Bool.not_false, cond_true, Bool.false_eq_true, if_false]
      rw [← hb, w_sl09One T s hs hl, Option.bind_some, w_sl09One T _ (on_le hs) hl, Option.bind_some, decide_eq_true (by simp; omega), cond_true, wr (by omega) (by omega), show ((min N 100 : Nat) : Int) - ((k + 1 : Nat) : Int) + 1 = ((min N 100 : Nat) : Int) - (k : Int) from by omega]) (by
    intro self s out
    simp only [Int.natCast_zero, Int.sub_zero]
    by_cases h : ((min N 100 : Nat) : Int) < (N : Int)
    · rw [decide_eq_true h, cond_true, decide_eq_false (by omega)]; rfl
    · rw [decide_eq_false h]; rfl) (min N 100) BIG (nm T s).2 [] (by omega) (by simp [BIG]; omega) (nm_le hs) (by simp)
  rw [show ((min N 100 : Nat) : Int) - ((min N 100 : Nat) : Int) = 0 from by omega] at L
  unfold loopT
  rw [L]
  rfl
theorem edF_len (T : List UInt8) : ∀ (k : Nat) (s : St) (out : List Ed), (edF T k s out).2.length ≤ out.length + k
  | 0, s, out => by simp [edF]
  | k + 1, s, out => by
    unfold edF
    split
    · exact Nat.le_add_right _ _
    · have := edF_len T k (on T (on T s).2).2 (out ++ [((on T s).1, (on T (on T s).2).1)])
      simp at this; omega
/-- Several edges read, with their number ahead. -/
theorem ed_take {T : List UInt8} {s : St} {K : Nat} (hs : s.1 ≤ T.length) (hK : K = (nm T s).1.toNat) (h : (edF T K (nm T s).2 []).1.2 = false) :
    (nm T s).2.2 = false ∧ (edF T K (nm T s).2 []).2.length = K ∧ T.take (edF T K (nm T s).2 []).1.1 = T.take s.1 ++ eT (edF T K (nm T s).2 []).2 := by
  obtain ⟨h1, h2⟩ := edF_spec T K (nm T s).2 [] (nm_le hs)
  obtain ⟨b1, es, b2, b3, b4⟩ := h2 h
  have c := nm_take hs b1
  rw [List.nil_append] at b2
  refine ⟨b1, by rw [b2]; exact b3, ?_⟩
  rw [b4, c.1, ← hK, List.append_assoc, b2]
  unfold eT
  rw [b3]
def q0 (T : List UInt8) : Int × St := nm T (0, false)
def q1 (T : List UInt8) : Int × St := on T (q0 T).2
def q2 (T : List UInt8) : Int × St := nm T (q1 T).2
def q3 (T : List UInt8) (K : Nat) : St × List Ed := edF T K (nm T (q2 T).2).2 []
theorem q_le (T : List UInt8) : (q0 T).2.1 ≤ T.length ∧ (q1 T).2.1 ≤ T.length ∧ (q2 T).2.1 ≤ T.length :=
  have h0 := nm_le (T := T) (s := (0, false)) (Nat.zero_le _)
  ⟨h0, on_le h0, nm_le (on_le h0)⟩
def lbF (T : List UInt8) : Nat → St → List Int → St × List Int
  | 0, s, out => (s, out)
  | k + 1, s, out => lbF T k (on T s).2 (out ++ [(on T s).1])
def lbG (T : List UInt8) : Nat → St → List Int → St × List Int
  | 0, s, out => (s, out)
  | k + 1, s, out => if s.2 then (s, out) else lbG T k (on T s).2 (out ++ [(on T s).1])
theorem on_stick {T : List UInt8} {s : St} (h : s.2 = true) : (on T s).2.2 = true := by unfold on; rw [if_pos h]
theorem lbF_stick (T : List UInt8) : ∀ (k : Nat) (s : St) (out : List Int), s.2 = true → (lbF T k s out).1.2 = true
  | 0, s, out, h => h
  | k + 1, s, out, h => lbF_stick T k _ _ (on_stick h)
theorem lbG_of (T : List UInt8) : ∀ (k : Nat) (s : St) (out : List Int), ((lbF T k s out).1.2 = false → lbG T k s out = lbF T k s out) ∧ ((lbF T k s out).1.2 = true → (lbG T k s out).1.2 = true)
  | 0, s, out => ⟨fun _ => rfl, fun h => h⟩
  | k + 1, s, out => by
    cases hs : s.2 with
    | true =>
      have := lbF_stick T (k + 1) s out hs
      refine ⟨fun h => (by rw [this] at h; cases h), fun _ => ?_⟩
      unfold lbG
      rw [if_pos hs]; exact hs
    | false =>
      have := lbG_of T k (on T s).2 (out ++ [(on T s).1])
      have e : lbG T (k + 1) s out = lbG T k (on T s).2 (out ++ [(on T s).1]) := by
        show (if s.2 then _ else _) = _
        rw [if_neg (by simp [hs])]
      rw [e]
      exact this
theorem lbF_len (T : List UInt8) : ∀ (k : Nat) (s : St) (out : List Int), (lbF T k s out).2.length = out.length + k
  | 0, s, out => rfl
  | k + 1, s, out => by
    show (lbF T k _ _).2.length = _
    rw [lbF_len T k]; simp; omega
theorem lbG_len (T : List UInt8) : ∀ (k : Nat) (s : St) (out : List Int), (lbG T k s out).2.length ≤ out.length + k
  | 0, s, out => Nat.le_refl _
  | k + 1, s, out => by
    unfold lbG
    split
    · exact Nat.le_add_right _ _
    · have := lbG_len T k (on T s).2 (out ++ [(on T s).1])
      simp at this; omega
theorem lbF_le (T : List UInt8) : ∀ (k : Nat) (s : St) (out : List Int), s.1 ≤ T.length → (lbF T k s out).1.1 ≤ T.length
  | 0, s, out, h => h
  | k + 1, s, out, h => lbF_le T k _ _ (on_le h)
theorem lbF_spec (T : List UInt8) : ∀ (k : Nat) (s : St) (out : List Int), (lbF T k s out).1.2 = false → s.2 = false ∧ ∃ es, (lbF T k s out).2 = out ++ es ∧ es.length = k ∧ T.take (lbF T k s out).1.1 = T.take s.1 ++ es.map by8
  | 0, s, out, h => ⟨h, [], by simp [lbF]⟩
  | k + 1, s, out, h => by
    obtain ⟨b1, es, b2, b3, b4⟩ := lbF_spec T k (on T s).2 (out ++ [(on T s).1]) h
    have c1 := on_take b1
    refine ⟨on_bad b1, (on T s).1 :: es, ?_, by simp [b3], ?_⟩
    · show (lbF T k _ _).2 = _
      rw [b2]; simp
    · show T.take (lbF T k (on T s).2 (out ++ [(on T s).1])).1.1 = _
      rw [b4, c1.1]; simp
theorem lbF_fold (T : List UInt8) {α : Type} : ∀ (l : List α) (s : St × List Int), l.foldl (fun s _ => ((on T s.1).2, s.2 ++ [(on T s.1).1])) s = lbF T l.length s.1 s.2
  | [], s => rfl
  | _ :: l, s => by rw [List.foldl_cons, lbF_fold T l]; rfl
theorem lbLoop (T : List UInt8) {X B : Type} {F : (X → Option B) → X → Option B} (mk : St → List Int → Nat → X) (res : St → List Int → B) (K : Nat)
    (hF : ∀ self (s : St) (out : List Int) (k : Nat), s.1 ≤ T.length → out.length + (k + 1) ≤ K → F self (mk s out (k + 1)) = if s.2 then some (res s out) else self (mk (on T s).2 (out ++ [(on T s).1]) k))
    (hE : ∀ self (s : St) (out : List Int), F self (mk s out 0) = some (res s out)) :
    ∀ (k n : Nat) (s : St) (out : List Int), out.length + k ≤ K → k < n → s.1 ≤ T.length → it F n (mk s out k) = some (res (lbG T k s out).1 (lbG T k s out).2)
  | 0, n, s, out, hk, hn, hs => by
    obtain ⟨m, rfl⟩ : ∃ m, n = m + 1 := ⟨n - 1, by omega⟩
    exact hE _ _ _
  | k + 1, n, s, out, hk, hn, hs => by
    obtain ⟨m, rfl⟩ : ∃ m, n = m + 1 := ⟨n - 1, by omega⟩
    show F (it F m) _ = _
    rw [hF _ _ _ _ hs hk]
    unfold lbG
    split
    · rfl
    · exact lbLoop T mk res K hF hE k m _ _ (by simp; omega) (by omega) (on_le hs)
def q4 (T : List UInt8) (K : Nat) : St × List Ed := edF T K (nm T (q1 T).2).2 []
def q5 (T : List UInt8) (K N : Nat) : St × List Int := lbF T N (q4 T K).1 []
def aQ (T : List UInt8) (K : Nat) (L : List Int) : An := ((q0 T).1, decide ((q1 T).1 = 1), (q4 T K).2, L)
theorem by8_01 {b : Int} (h0 : 0 ≤ b) (h1 : b ≤ 255) : (∃ c, flT c = [by8 b]) ↔ b ≤ 1 := by
  constructor
  · rintro ⟨c, hc⟩
    have := congrArg (fun l : List UInt8 => (l.getD 0 9).toNat) hc
    obtain ⟨n, rfl⟩ : ∃ n : Nat, b = n := ⟨b.toNat, by omega⟩
    simp only [flT, List.getD_cons_zero] at this
    rw [by8_toNat (by omega)] at this
    cases c <;> simp at this <;> omega
  · intro h
    rcases (show b = 0 ∨ b = 1 by omega) with rfl | rfl
    · exact ⟨false, rfl⟩
    · exact ⟨true, rfl⟩
theorem flT_1 {b : Int} (h0 : 0 ≤ b) (h1 : b ≤ 1) : flT (decide (b = 1)) = [by8 b] := by
  rcases (show b = 0 ∨ b = 1 by omega) with rfl | rfl <;> rfl
theorem aQ_take {T : List UInt8} {K N : Nat} (hK : K = (nm T (q1 T).2).1.toNat) (h : (q5 T K N).1.2 = false) : (q4 T K).2.length = K ∧ (q5 T K N).2.length = N ∧ (0 ≤ (q1 T).1 ∧ (q1 T).1 ≤ 255) ∧
    T.take (q5 T K N).1.1 = ((vB (q0 T).1.toNat ++ [by8 (q1 T).1]) ++ eT (q4 T K).2) ++ (q5 T K N).2.map by8 ∧ (q5 T K N).1.1 ≤ T.length := by
  obtain ⟨l0, l1, l2⟩ := q_le T
  obtain ⟨a0, es, c2, c3, c4⟩ := lbF_spec T N (q4 T K).1 [] h
  obtain ⟨a1, a2, a3⟩ := ed_take l1 hK a0
  have a5 := nm_bad a1
  have b1 := on_take a5
  have a6 := on_bad a5
  have b0 := nm_take (Nat.zero_le _) a6
  have e0 : T.take (q0 T).2.1 = vB (q0 T).1.toNat := by have := b0.1; simp only [List.take_zero, List.nil_append] at this; exact this
  have e1 : T.take (q1 T).2.1 = vB (q0 T).1.toNat ++ [by8 (q1 T).1] := by rw [← e0]; exact b1.1
  refine ⟨a2, ?_, ⟨b1.2.1, b1.2.2.1⟩, ?_, lbF_le T N _ _ (edF_spec T K (nm T (q1 T).2).2 [] (nm_le l1)).1⟩
  · rw [show (q5 T K N).2.length = _ from lbF_len T N _ _]; simp
  · rw [← e1]
    have h5 : (q5 T K N).2 = es := by rw [← List.nil_append es]; exact c2
    rw [h5]
    show T.take (lbF T N (q4 T K).1 []).1.1 = _
    rw [c4]
    congr 1
/-- The answer that stands in a text. -/
def rdA (n : Int) (T : List UInt8) : Option An :=
  let K := (nm T (q1 T).2).1.toNat
  if inB n 1 12 = true ∧ (q5 T K n.toNat).1.2 = false ∧ (q5 T K n.toNat).1.1 = T.length ∧ (q1 T).1 ≤ 1 ∧ ansB n (aQ T K (q5 T K n.toNat).2) = true then some (aQ T K (q5 T K n.toNat).2) else none
theorem rdA_some {n : Int} {T : List UInt8} {a : An} (h : rdA n T = some a) : ansB n a = true ∧ aT a = T := by
  unfold rdA at h
  simp only at h
  split at h
  · rename_i hc
    cases h
    have := aQ_take rfl hc.2.1
    refine ⟨hc.2.2.2.2, ?_⟩
    conv => rhs; rw [← List.take_length (l := T), ← hc.2.2.1, this.2.2.2.1, ← flT_1 this.2.2.1.1 hc.2.2.2.1]
    rfl
  · cases h
def raR : Option An → Int × Bool × List Ed × List Int × Bool
  | some a => (a.1, a.2.1, a.2.2.1, a.2.2.2, true)
  | none => (0, false, [], [], false)
theorem w_iReadAnswer (n : Int) (T : List UInt8) (hl : T.length ≤ 1048576) : g_iReadAnswer (n, BA T) = some (raR (rdA n T), ()) := by
  obtain ⟨l0, l1, l2⟩ := q_le T
  have hm : maxLen = 9223372036854775807 := by decide
  show f_iReadAnswer BIG _ = _
  have r0 : g_ireader_num (BA T, (0 : Int), false) = some ((q0 T).1, (BA T, ((q0 T).2.1 : Int), (q0 T).2.2)) := w_ireader_num T (0, false) (Nat.zero_le _) (by omega)
  have r1 : g_ireader_one (BA T, ((q0 T).2.1 : Int), (q0 T).2.2) = some ((q1 T).1, (BA T, ((q1 T).2.1 : Int), (q1 T).2.2)) := w_ireader_one T (q0 T).2 l0 (by omega)
  have r3 : g_ireader_edges (BA T, ((q1 T).2.1 : Int), (q1 T).2.2) = some ((q4 T (nm T (q1 T).2).1.toNat).2, (BA T, ((q4 T (nm T (q1 T).2).1.toNat).1.1 : Int), (q4 T (nm T (q1 T).2).1.toNat).1.2)) := w_ireader_edges T (q1 T).2 l1 (by omega)
  rw [e_iReadAnswer, h_iin', Option.bind_some]
  unfold rdA
  cases hn : inB n 1 12 with
  | false => rfl
  | true =>
    rw [inB_t] at hn
    obtain ⟨N, rfl⟩ : ∃ N : Nat, n = N := ⟨n.toNat, by omega⟩
    simp only [Bool.not_true, cond_false, r0, r1, r3, Option.bind_some, Int.toNat_natCast]
    generalize hK : (nm T (q1 T).2).1.toNat = K
    have hle : (q4 T K).1.1 ≤ T.length := by
      have := (edF_spec T K (nm T (q1 T).2).2 [] (nm_le l1)).1
      exact this
    rw [foldG (List.range N) (by simp; omega) (fun (s : St × List Int) i => ((BA T, (s.1.1 : Int), s.1.2), ((q0 T).1, decide ((q1 T).1 = 1), (q4 T K).2, s.2), i)) (fun i s => s.1.1 ≤ T.length ∧ s.2.length = i)
      (fun s _ => ((on T s.1).2, s.2 ++ [(on T s.1).1])) (fun s => ((BA T, (s.1.1 : Int), s.1.2), ((q0 T).1, decide ((q1 T).1 = 1), (q4 T K).2, s.2))) (s0 := ((q4 T K).1, [])) ⟨hle, rfl⟩ (fun i s y _ h => ⟨on_le h.1, by simp [h.2]⟩)]
    · rw [lbF_fold, List.length_range]
      have he : ∀ p b, g_ireader_ends (BA T, p, b) = some (!b && decide (p = (T.length : Int)), (BA T, p, b)) := by
        intro p b
        show f_ireader_ends BIG _ = _
        rw [e_ireader_ends]
        cases b <;> rfl
      simp only [Option.bind_some, he]
      show (Option.bind (bif decide ((1 : Int) < (q1 T).1) then some true else bif !(!(q5 T K N).1.2 && decide (((q5 T K N).1.1 : Int) = (T.length : Int))) then some true else Option.bind (g_iAnswerOk ((N : Int), aQ T K (q5 T K N).2)) fun r9 => some !r9.1 : Option Bool) fun x10 =>
        bif x10 then some (((0 : Int), false, [], [], false), ()) else some (((q0 T).1, decide ((q1 T).1 = 1), (q4 T K).2, (q5 T K N).2, true), ())) = _
      by_cases hb1 : (q1 T).1 ≤ 1
      · rw [decide_eq_false (by omega), cond_false]
        cases hb : (q5 T K N).1.2 with
        | true => simp [raR]
        | false =>
          by_cases hp : (q5 T K N).1.1 = T.length
          · have hq := aQ_take hK.symm hb
            have hlen : (q4 T K).2.length ≤ 1048576 := by
              have h1 := congrArg List.length hq.2.2.2.1
              rw [List.length_take] at h1
              simp only [eT, List.length_append, flat2_len] at h1
              omega
            rw [h_iAnswerOk (N : Int) (aQ T K (q5 T K N).2) hlen (show (q5 T K N).2.length ≤ 1048576 by rw [hq.2.1]; omega)]
            simp only [hp, decide_true, Bool.not_false, Bool.and_self, Bool.not_true, cond_false, Option.bind_some, true_and, hb1]
            cases hO : ansB (N : Int) (aQ T K (q5 T K N).2) with
            | false => simp [raR]
            | true => simp only [and_self, if_true, Bool.not_true, cond_false]; rfl
          · have : decide (((q5 T K N).1.1 : Int) = (T.length : Int)) = false := decide_eq_false (by omega)
            simp [this, hp, raR]
      · rw [decide_eq_true (by omega)]
        simp [hb1, raR]
    · rintro self ⟨s, out⟩ i y hy ⟨h1, h2⟩
      have hi := (List.getElem?_eq_some_iff.1 hy).1
      rw [List.length_range] at hi
      simp only at h1 h2
      simp only [show ((i : Int) < (N : Int)) from by omega, decide_true, cond_true]
      rw [w_ireader_one T s h1 (by omega), Option.bind_some, decide_eq_true (by simp; omega), cond_true, wr1 (by omega)]
    · intro self s _
      simp
theorem w_sReadAnswer (n : Int) (T : List UInt8) (hl : T.length ≤ 1048576) : g_sReadAnswer (n, BA T) = some (raR (rdA n T), ()) := by
  obtain ⟨l0, l1, l2⟩ := q_le T
  have hm : maxLen = 9223372036854775807 := by decide
  show f_sReadAnswer BIG _ = _
  have r0 : g_sl09Var (BA T, (0 : Int), false) = some ((q0 T).1, (BA T, ((q0 T).2.1 : Int), (q0 T).2.2)) := w_sl09Var T (0, false) (Nat.zero_le _) (by omega)
  have r1 : g_sl09One (BA T, ((q0 T).2.1 : Int), (q0 T).2.2) = some ((q1 T).1, (BA T, ((q1 T).2.1 : Int), (q1 T).2.2)) := w_sl09One T (q0 T).2 l0 (by omega)
  have r3 : g_sl09ReadEdges (BA T, ((q1 T).2.1 : Int), (q1 T).2.2) = some ((q4 T (min (nm T (q1 T).2).1.toNat 100)).2, (BA T, ((q4 T (min (nm T (q1 T).2).1.toNat 100)).1.1 : Int), (q4 T (min (nm T (q1 T).2).1.toNat 100)).1.2)) := w_sl09ReadEdges T (q1 T).2 l1 (by omega)
  rw [e_sReadAnswer, r0, Option.bind_some]
  simp only [r1, r3, Option.bind_some]
  unfold rdA
  simp only
  generalize hK : (nm T (q1 T).2).1.toNat = K
  generalize hK' : min K 100 = K'
  generalize hM : min n.toNat 12 = M
  have hle : (q4 T K').1.1 ≤ T.length := by
    have := (edF_spec T K' (nm T (q1 T).2).2 [] (nm_le l1)).1
    exact this
  have L := lbLoop T (F := fun self4 x3 =>
    Option.bind (bif decide (x3.2.2 < n) then
      bif decide (x3.2.2 < (12 : Int)) then
       some !x3.1.2.2
      else some false
     else some false : Option (Bool)) fun x5 =>
    bif x5 then
     Option.bind (g_sl09One x3.1) fun r6 =>
     bif decide (x3.2.1.2.2.2.length + [r6.1].length ≤ 4294967296) then
      self4 (r6.2, (x3.2.1.1, x3.2.1.2.1, x3.2.1.2.2.1, x3.2.1.2.2.2 ++ [r6.1]), IntKind.wrap .i64 (x3.2.2 + (1 : Int)))
     else none
    else some (x3.1, x3.2.1)) (fun s out k => ((BA T, (s.1 : Int), s.2), ((q0 T).1, decide ((q1 T).1 = 1), (q4 T K').2, out), (M : Int) - (k : Int))) (fun s out => ((BA T, (s.1 : Int), s.2), ((q0 T).1, decide ((q1 T).1 = 1), (q4 T K').2, out))) M (by
    intro self s out k hs ho
    simp only [show (M : Int) - ((k + 1 : Nat) : Int) < n from by omega, show (M : Int) - ((k + 1 : Nat) : Int) < 12 from by omega, decide_true, cond_true, Option.bind_some]
    cases hb : s.2 with
    | true => rfl
    | false =>
      simp only [Bool.not_false, cond_true, Bool.false_eq_true, if_false]
      rw [← hb, w_sl09One T s hs (by omega), Option.bind_some, decide_eq_true (by simp; omega), cond_true, wr (by omega) (by omega), show (M : Int) - ((k + 1 : Nat) : Int) + 1 = (M : Int) - (k : Int) from by omega]) (by
    intro self s out
    simp only [Int.natCast_zero, Int.sub_zero]
    by_cases h : (M : Int) < n
    · rw [decide_eq_true h, cond_true, decide_eq_false (by omega)]; rfl
    · rw [decide_eq_false h]; rfl) M BIG (q4 T K').1 [] (by simp) (by simp [BIG]; omega) hle
  rw [show (M : Int) - (M : Int) = 0 from by omega] at L
  unfold loopT
  rw [L, Option.bind_some]
  have hlab := lbG_len T M (q4 T K').1 []
  have hed := edF_len T K' (nm T (q1 T).2).2 []
  have hed' : (q4 T K').2.length ≤ 100 := by
    have : (q4 T K').2.length ≤ 0 + K' := hed
    omega
  generalize hG : lbG T M (q4 T K').1 [] = G at hlab
  simp only [List.length_nil] at hlab
  show (Option.bind (g_sAnswerText (n, aQ T K' G.2)) fun r8 => Option.bind (bif G.1.2 then some true else bif !r8.1.2 then some true else some (!(r8.1.1.toList == (BA T).toList)) : Option Bool) fun x9 =>
    bif x9 then some (((0 : Int), false, [], [], false), ()) else some (((q0 T).1, decide ((q1 T).1 = 1), (q4 T K').2, G.2, true), ())) = _
  rw [w_sAnswerText n (aQ T K' G.2) (show (q4 T K').2.length ≤ 1048576 by omega) (show G.2.length ≤ 1048576 by omega), Option.bind_some]
  have fail : (G.1.2 = true ∨ ansB n (aQ T K' G.2) = false) → (Option.bind (bif G.1.2 then some true else bif !(if ansB n (aQ T K' G.2) = true then (BA (aT (aQ T K' G.2)), true) else (BA [], false)).2 then some true else some (!((if ansB n (aQ T K' G.2) = true then (BA (aT (aQ T K' G.2)), true) else (BA [], false)).1.toList == (BA T).toList)) : Option Bool) fun x9 =>
    bif x9 then some (((0 : Int), false, [], [], false), ()) else some (((q0 T).1, decide ((q1 T).1 = 1), (q4 T K').2, G.2, true), ())) = some (raR none, ()) := by
    rintro (h | h)
    · rw [h]; rfl
    · rw [h]
      cases G.1.2 <;> rfl
  cases hn : inB n 1 12 with
  | false =>
    rw [fail (.inr (by unfold ansB; rw [hn, Bool.false_and])), if_neg (by simp)]
  | true =>
    rw [inB_t] at hn
    obtain ⟨N, rfl⟩ : ∃ N : Nat, n = N := ⟨n.toNat, by omega⟩
    rw [Int.toNat_natCast] at hM ⊢
    have hMN : M = N := by omega
    subst hMN
    have hbig : ∀ L', 66 < (q4 T K').2.length → ansB (M : Int) (aQ T K' L') = false := by
      intro L' h
      cases hO : ansB (M : Int) (aQ T K' L') with
      | false => rfl
      | true =>
        have := eOk_len (ansB_in hO).2.2.2.2.1
        have h2 : (aQ T K' L').2.2.1 = (q4 T K').2 := rfl
        rw [h2] at this
        omega
    obtain ⟨g1, g2⟩ := lbG_of T M (q4 T K').1 []
    by_cases hk : K ≤ 100
    · have : K' = K := by omega
      subst this
      cases hb : (q5 T K' M).1.2 with
      | true =>
        have hGb : G.1.2 = true := by rw [← hG]; exact g2 hb
        rw [fail (.inl hGb), if_neg (by simp)]
      | false =>
        have hGe : G = q5 T K' M := by rw [← hG]; exact g1 hb
        have hq := aQ_take hK.symm hb
        cases hO : ansB (M : Int) (aQ T K' (q5 T K' M).2) with
        | false => rw [fail (.inr (by rw [hGe]; exact hO)), if_neg (by simp)]
        | true =>
          have e1 : (aT (aQ T K' (q5 T K' M).2) = T) ↔ ((q5 T K' M).1.1 = T.length ∧ (q1 T).1 ≤ 1) := by
            constructor
            · intro h
              have hlen := congrArg List.length h
              have hlen2 := congrArg List.length hq.2.2.2.1
              rw [List.length_take] at hlen2
              have hlen3 : (aT (aQ T K' (q5 T K' M).2)).length = (((vB (q0 T).1.toNat ++ [by8 (q1 T).1]) ++ eT (q4 T K').2) ++ (q5 T K' M).2.map by8).length := by
                simp [aT, aQ, flT]
              have hp : (q5 T K' M).1.1 = T.length := by omega
              refine ⟨hp, (by8_01 hq.2.2.1.1 hq.2.2.1.2).1 ⟨decide ((q1 T).1 = 1), ?_⟩⟩
              have h4 := hq.2.2.2.1
              rw [hp, List.take_length] at h4
              have h5 : ((vB (q0 T).1.toNat ++ flT (decide ((q1 T).1 = 1))) ++ eT (q4 T K').2) ++ (q5 T K' M).2.map by8 = ((vB (q0 T).1.toNat ++ [by8 (q1 T).1]) ++ eT (q4 T K').2) ++ (q5 T K' M).2.map by8 := h.trans h4
              exact List.append_cancel_left (List.append_cancel_right (List.append_cancel_right h5))
            · rintro ⟨hp, h1⟩
              have h4 := hq.2.2.2.1
              rw [hp, List.take_length, ← flT_1 hq.2.2.1.1 h1] at h4
              exact h4.symm
          rw [hGe, hb, hO]
          simp only [cond_false, if_true, Bool.not_true, BA_toList, Option.bind_some]
          by_cases hT : aT (aQ T K' (q5 T K' M).2) = T
          · have := e1.1 hT
            rw [hT, beq_self_eq_true, if_pos (by simp [this.1, this.2])]
            rfl
          · rw [beq_eq_false_iff_ne.2 hT, if_neg (fun h => hT (e1.2 ⟨h.2.2.1, h.2.2.2.1⟩))]
            rfl
    · have hK100 : K' = 100 := by omega
      subst hK100
      have e2 : ¬ (true = true ∧ (q5 T K M).1.2 = false ∧ (q5 T K M).1.1 = T.length ∧ (q1 T).1 ≤ 1 ∧ ansB (M : Int) (aQ T K (q5 T K M).2) = true) := by
        rintro ⟨_, hb, _, _, hO⟩
        have hq := aQ_take hK.symm hb
        have := eOk_len (ansB_in hO).2.2.2.2.1
        have h2 : (aQ T K (q5 T K M).2).2.2.1 = (q4 T K).2 := rfl
        rw [h2, hq.1] at this
        omega
      rw [if_neg e2]
      apply fail
      cases hGb : G.1.2 with
      | true => exact .inl rfl
      | false =>
        right
        apply hbig
        have hb5 : (lbF T M (q4 T 100).1 []).1.2 = false := by
          cases h : (lbF T M (q4 T 100).1 []).1.2 with
          | false => rfl
          | true => rw [← hG, g2 h] at hGb; cases hGb
        obtain ⟨hb4, _⟩ := lbF_spec T M (q4 T 100).1 [] hb5
        obtain ⟨_, h2⟩ := edF_spec T 100 (nm T (q1 T).2).2 [] (nm_le l1)
        obtain ⟨_, es, b2, b3, _⟩ := h2 hb4
        show 66 < (edF T 100 (nm T (q1 T).2).2 []).2.length
        rw [b2]; simp [b3]
theorem law_lFnExactReadAnswer (n : Int) (t : ByteArray) : g_lFnExactReadAnswer (n, t) = some (true, ()) := by
  show f_lFnExactReadAnswer BIG _ = _
  rw [e_lFnExactReadAnswer, ← BA_data t]
  generalize t.data.toList = T
  rw [BA_size]
  by_cases hl : T.length ≤ 1048576
  case neg => rw [decide_eq_true (by omega)]; rfl
  rw [decide_eq_false (by omega), cond_false, w_iReadAnswer n T hl, w_sReadAnswer n T hl]
  have hlen : (raR (rdA n T)).2.2.1.length ≤ 66 ∧ (raR (rdA n T)).2.2.2.1.length ≤ 12 := by
    cases h : rdA n T with
    | none => simp [raR]
    | some a =>
      have := ansB_in (rdA_some h).1
      exact ⟨eOk_len this.2.2.2.2.1, by simp only [raR]; omega⟩
  generalize raR (rdA n T) = r at hlen
  obtain ⟨x0, x1, x2, x3, ok⟩ := r
  simp only at hlen
  obtain ⟨t2, t3, c, m, d, l, u⟩ := mh_Answer x0 x1 x2 x3 1 (by omega) (by omega) (by omega)
  simp only [Option.bind_some, eq_Answer x0 x1 x2 x3 (by omega), Bool.not_true, cond_false, beq_self_eq_true, m, d, neg_f l, decide_true]
end Go.Fw
