/- What the given functions come to. No conditions. -/
import Derived.Test.YthgfbaannligeaaX0
import Derived.IntWalk
set_option linter.unusedVariables false
set_option linter.unusedSimpArgs false
namespace Go.Fw

theorem loop_rel {X B : Type} {F : (X → Option B) → X → Option B} (I : X → Prop) (μ : X → Nat) (Q : X → B → Prop)
    (h : ∀ self x, I x → (∀ y, I y → μ y < μ x → ∃ b, self y = some b ∧ Q y b) → ∃ b, F self x = some b ∧ Q x b) : ∀ {n : Nat} {x : X}, μ x < n → I x → ∃ b, loopT n F x = some b ∧ Q x b
  | 0, _, hn, _ => absurd hn (Nat.not_lt_zero _)
  | n + 1, x, hn, hi => h (it F n) x hi fun _ hy hm => loop_rel I μ Q h (n := n) (by omega) hy
theorem loop_eq {X B : Type} {F : (X → Option B) → X → Option B} (I : X → Prop) (μ : X → Nat) (R : X → B)
    (h : ∀ self x, I x → (∀ y, I y → μ y < μ x → self y = some (R y)) → F self x = some (R x)) {n : Nat} {x : X} (hn : μ x < n) (hi : I x) : loopT n F x = some (R x) := by
  obtain ⟨b, h1, h2⟩ := loop_rel (F := F) I μ (fun x b => b = R x) (fun self x hx hs => ⟨_, h self x hx fun y hy hm => by obtain ⟨b, h1, h2⟩ := hs y hy hm; rw [h1, h2], rfl⟩) hn hi
  rw [h1, h2]
theorem wr {n : Int} (h : -9223372036854775808 ≤ n) (h' : n ≤ 9223372036854775807) : IntKind.wrap .i64 n = n := by
  rw [IntKind.wrap_i64]; omega
theorem wr1 {i : Nat} (h : i < maxLen) : IntKind.wrap .i64 ((i : Int) + 1) = ((i + 1 : Nat) : Int) := by
  have : maxLen = 9223372036854775807 := by decide
  rw [wr (by omega) (by omega)]; rfl
theorem bnd_ok {B : Type} {len : Nat} {i : Int} {k : Nat → Option B} (h : 0 ≤ i) (h' : i < len) : bnd len i k = k i.toNat := by
  unfold bnd
  rw [if_pos ⟨h, by omega⟩]
theorem bnd_nat {B : Type} {len : Nat} {i : Nat} {k : Nat → Option B} (h' : i < len) : bnd len (i : Int) k = k i := by
  rw [bnd_ok (Int.natCast_nonneg i) (by omega)]
  simp
/-- A loop that goes through a row, and is left at the first place where it is told so. -/
theorem allLoop {α B : Type} (a : List α) (hl : a.length < 18446744073709551616) {F : (Int → Option (Unit ⊕ B)) → Int → Option (Unit ⊕ B)} (p : Nat → Bool) (b : B)
    (hF : ∀ self (i : Nat) y, a[i]? = some y → F self (i : Int) = if p i then self ((i + 1 : Nat) : Int) else some (.inr b))
    (hE : ∀ self, F self (a.length : Int) = some (.inl ())) : loopT BIG F 0 = some (if ∀ i, i < a.length → p i = true then .inl () else .inr b) := by
  have hh := loop_rel (F := F) (fun x => ∃ i : Nat, x = i ∧ i ≤ a.length) (fun x => a.length - x.toNat) (fun x r => ((∀ i : Nat, x ≤ (i : Int) → i < a.length → p i = true) ∧ r = .inl ()) ∨ ((∃ i : Nat, i < a.length ∧ p i = false) ∧ r = .inr b)) (fun self x ⟨i, h1, h2⟩ hs => ?_) (n := BIG) (x := 0) (by simp; exact hl) ⟨0, rfl, by simp⟩
  · obtain ⟨r, hr, hq⟩ := hh
    rw [hr]
    congr 1
    rcases hq with ⟨h1, rfl⟩ | ⟨⟨i, h1, h2⟩, rfl⟩
    · rw [if_pos fun i hi => h1 i (by omega) hi]
    · rw [if_neg]
      intro h
      rw [h i h1] at h2; cases h2
  · subst h1
    by_cases hi : i < a.length
    · rw [hF self i a[i] (List.getElem?_eq_getElem hi)]
      cases hp : p i with
      | true =>
        rw [if_pos rfl]
        obtain ⟨r, hr, hq⟩ := hs _ ⟨i + 1, rfl, hi⟩ (by simp; omega)
        refine ⟨r, hr, ?_⟩
        rcases hq with ⟨h1, rfl⟩ | h1
        · refine .inl ⟨fun k hk hk' => ?_, rfl⟩
          by_cases h : k = i
          · subst h; exact hp
          · exact h1 k (by omega) hk'
        · exact .inr h1
      | false => exact ⟨_, rfl, .inr ⟨⟨i, hi, hp⟩, rfl⟩⟩
    · have : i = a.length := by omega
      subst this
      exact ⟨_, hE self, .inl ⟨fun k hk hk' => by omega, rfl⟩⟩
theorem maxLen_lt : maxLen < 18446744073709551616 := by decide
/-- Two rows that are looked at side by side. -/
theorem eqLoop {α B : Type} [DecidableEq α] (a b : List α) (hl : a.length ≤ maxLen) (hab : a.length = b.length) {F : (Int → Option (Unit ⊕ B)) → Int → Option (Unit ⊕ B)} (r : B)
    (hF : ∀ self (i : Nat) x y, a[i]? = some x → b[i]? = some y → F self (i : Int) = if x = y then self ((i + 1 : Nat) : Int) else some (.inr r))
    (hE : ∀ self, F self (a.length : Int) = some (.inl ())) : loopT BIG F 0 = some (if a = b then .inl () else .inr r) := by
  rw [allLoop a (Nat.lt_of_le_of_lt hl maxLen_lt) (fun i => decide (a[i]? = b[i]?)) r (fun self i y hy => ?_) hE]
  · congr 1
    by_cases h : a = b
    · subst h; simp
    · rw [if_neg h, if_neg]
      intro h'
      apply h
      apply List.ext_getElem? fun i => ?_
      by_cases hi : i < a.length
      · simpa using h' i hi
      · rw [List.getElem?_eq_none (by omega), List.getElem?_eq_none (by omega)]
  · have hi := (List.getElem?_eq_some_iff.1 hy).1
    have hb : b[i]? = some (b[i]'(by omega)) := List.getElem?_eq_getElem (by omega)
    rw [hF self i y _ hy hb, hy, hb]
    simp
/-- A row bears marks that go from a number to a number. -/
def HdL {α : Type} (hd : Int → α → Int → Prop) : Int → List α → Int → Prop
  | k, [], k' => k' = k
  | k, z :: t, k' => ∃ k1, hd k z k1 ∧ HdL hd k1 t k'
theorem HdL.snoc {α : Type} {hd : Int → α → Int → Prop} : ∀ {t : List α} {k k1 k2 : Int} {z : α}, HdL hd k t k1 → hd k1 z k2 → HdL hd k (t ++ [z]) k2
  | [], _, _, _, _, h, h' => by cases h; exact ⟨_, h', rfl⟩
  | _ :: _, _, _, _, _, ⟨k3, h1, h2⟩, h' => ⟨k3, h1, h2.snoc h'⟩
/-- A loop that marks each of a row. -/
theorem mkLoop {α : Type} (hd : Int → α → Int → Prop) (C : Int) (hC : 0 ≤ C) (a : List α) (k0 : Int) (hl : a.length < 18446744073709551616)
    {F : (List α × Int × Int → Option (List α × Int)) → List α × Int × Int → Option (List α × Int)}
    (hF : ∀ self out (i : Nat) (k : Int) y, i < a.length → out.length = a.length → out[i]? = some y → a[i]? = some y → k0 ≤ k → k ≤ k0 + C * i →
      ∃ z k', hd k z k' ∧ k ≤ k' ∧ k' ≤ k + C ∧ F self (out, k, (i : Int)) = self (out.set i z, k', ((i + 1 : Nat) : Int)))
    (hE : ∀ self out k, out.length = a.length → F self (out, k, (a.length : Int)) = some (out, k)) :
    ∃ t k', loopT BIG F (a, k0, 0) = some (t, k') ∧ HdL hd k0 t k' ∧ t.length = a.length ∧ k0 ≤ k' ∧ k' ≤ k0 + C * a.length := by
  have := loop_rel (F := F) (fun x => ∃ (i : Nat) (t : List α), x.2.2 = i ∧ i ≤ a.length ∧ t.length = i ∧ x.1 = t ++ a.drop i ∧ HdL hd k0 t x.2.1 ∧ k0 ≤ x.2.1 ∧ x.2.1 ≤ k0 + C * i) (fun x => a.length - x.2.2.toNat)
    (fun _ r => HdL hd k0 r.1 r.2 ∧ r.1.length = a.length ∧ k0 ≤ r.2 ∧ r.2 ≤ k0 + C * a.length) (fun self x ⟨i, t, h1, h2, h3, h4, h5, h6, h7⟩ hs => ?_) (n := BIG) (x := (a, k0, 0)) (by simp; exact hl)
    ⟨0, [], rfl, by simp, rfl, by simp, rfl, Int.le_refl _, by simp⟩
  · obtain ⟨⟨t, k'⟩, h1, h2⟩ := this
    exact ⟨t, k', h1, h2⟩
  · obtain ⟨out, k, j⟩ := x
    simp only at h1 h4 h5 h6 h7
    subst h1 h3
    have hlen : out.length = a.length := by rw [h4]; simp; omega
    by_cases hi : t.length < a.length
    · have hy := List.getElem?_eq_getElem hi
      have ho : out[t.length]? = a[t.length]? := by rw [h4, List.getElem?_append_right (Nat.le_refl _)]; simp
      obtain ⟨z, k', g1, g2, g3, g4⟩ := hF self out t.length k _ hi hlen (by rw [ho, hy]) hy h6 h7
      rw [g4]
      have e : out.set t.length z = (t ++ [z]) ++ a.drop (t.length + 1) := by
        rw [h4, List.set_append_right _ _ (Nat.le_refl _), Nat.sub_self, List.drop_eq_getElem_cons hi, List.set_cons_zero, List.append_assoc]
        rfl
      have hm : C * ((t.length + 1 : Nat) : Int) = C * (t.length : Int) + C := by rw [Int.natCast_add, Int.mul_add]; simp
      exact hs _ ⟨t.length + 1, t ++ [z], rfl, hi, by simp, e, h5.snoc g1, by simp only; omega, by simp only; omega⟩ (by simp only [Int.toNat_natCast]; omega)
    · have hi' : t.length = a.length := by omega
      rw [hi', hE self out k hlen]
      rw [hi', List.drop_length, List.append_nil] at h4
      subst h4
      exact ⟨_, rfl, h5, hi', h6, by rw [← hi']; exact h7⟩
/-- A loop that holds a row against its marks. -/
theorem hdLoop {α B : Type} (hd : Int → α → Int → Prop) (a : List α) (k0 k9 : Int) (hl : a.length < 18446744073709551616) (h : HdL hd k0 a k9)
    {F : (Int × Int → Option (Int ⊕ B)) → Int × Int → Option (Int ⊕ B)}
    (hF : ∀ self (i : Nat) (k k' : Int) z, a[i]? = some z → hd k z k' → F self (k, (i : Int)) = self (k', ((i + 1 : Nat) : Int)))
    (hE : ∀ self k, F self (k, (a.length : Int)) = some (.inl k)) : loopT BIG F (k0, 0) = some (.inl k9) := by
  have := loop_eq (F := F) (fun x => ∃ i : Nat, x.2 = i ∧ i ≤ a.length ∧ HdL hd x.1 (a.drop i) k9) (fun x => a.length - x.2.toNat) (fun _ => .inl k9) (fun self x ⟨i, h1, h2, h3⟩ hs => ?_) (n := BIG) (x := (k0, 0)) (by simp; exact hl) ⟨0, rfl, by simp, by simpa using h⟩
  · exact this
  · obtain ⟨k, j⟩ := x
    simp only at h1 h3
    subst h1
    by_cases hi : i < a.length
    · rw [List.drop_eq_getElem_cons hi] at h3
      obtain ⟨k1, g1, g2⟩ := h3
      rw [hF self i k k1 _ (List.getElem?_eq_getElem hi) g1]
      exact hs _ ⟨i + 1, rfl, hi, g2⟩ (by simp; omega)
    · have : i = a.length := by omega
      subst this
      rw [List.drop_length] at h3
      cases h3
      exact hE self _
/-- Two vertices hang together by edges. -/
inductive Con (E : List (Int × Int)) : Int → Int → Prop
  | refl (v : Int) : Con E v v
  | fwd {u v w : Int} : Con E u v → (v, w) ∈ E → Con E u w
  | bwd {u v w : Int} : Con E u v → (w, v) ∈ E → Con E u w
theorem Con.trans {E : List (Int × Int)} {u v w : Int} (h : Con E u v) (h' : Con E v w) : Con E u w := by
  induction h' with
  | refl => exact h
  | fwd _ he ih => exact .fwd ih he
  | bwd _ he ih => exact .bwd ih he
theorem Con.symm {E : List (Int × Int)} {u v : Int} (h : Con E u v) : Con E v u := by
  induction h with
  | refl => exact .refl _
  | fwd _ he ih => exact Con.trans (.bwd (.refl _) he) ih
  | bwd _ he ih => exact Con.trans (.fwd (.refl _) he) ih
theorem Con.mono {E E' : List (Int × Int)} (hE : ∀ e, e ∈ E → e ∈ E') {u v : Int} (h : Con E u v) : Con E' u v := by
  induction h with
  | refl => exact .refl _
  | fwd _ he ih => exact .fwd ih (hE _ he)
  | bwd _ he ih => exact .bwd ih (hE _ he)
theorem Con.of {E : List (Int × Int)} {u v : Int} (h : (u, v) ∈ E) : Con E u v := .fwd (.refl _) h
theorem Con.snoc {E : List (Int × Int)} {a b u v : Int} : Con (E ++ [(a, b)]) u v ↔ Con E u v ∨ (Con E u a ∧ Con E b v) ∨ (Con E u b ∧ Con E a v) := by
  constructor
  · intro h
    induction h with
    | refl => exact .inl (.refl _)
    | fwd _ he ih =>
      rcases List.mem_append.1 he with h1 | h1
      · rcases ih with h | ⟨h, h'⟩ | ⟨h, h'⟩
        · exact .inl (.fwd h h1)
        · exact .inr (.inl ⟨h, .fwd h' h1⟩)
        · exact .inr (.inr ⟨h, .fwd h' h1⟩)
      · cases List.mem_singleton.1 h1
        rcases ih with h | ⟨h, h'⟩ | ⟨h, h'⟩
        · exact .inr (.inl ⟨h, .refl _⟩)
        · exact .inr (.inl ⟨h, .refl _⟩)
        · exact .inl h
    | bwd _ he ih =>
      rcases List.mem_append.1 he with h1 | h1
      · rcases ih with h | ⟨h, h'⟩ | ⟨h, h'⟩
        · exact .inl (.bwd h h1)
        · exact .inr (.inl ⟨h, .bwd h' h1⟩)
        · exact .inr (.inr ⟨h, .bwd h' h1⟩)
      · cases List.mem_singleton.1 h1
        rcases ih with h | ⟨h, h'⟩ | ⟨h, h'⟩
        · exact .inr (.inr ⟨h, .refl _⟩)
        · exact .inl h
        · exact .inr (.inr ⟨h, .refl _⟩)
  · have hm : ∀ {x y : Int}, Con E x y → Con (E ++ [(a, b)]) x y := fun h => h.mono fun e he => List.mem_append_left _ he
    have hab : Con (E ++ [(a, b)]) a b := .of (List.mem_append_right _ (List.mem_singleton.2 rfl))
    rintro (h | ⟨h, h'⟩ | ⟨h, h'⟩)
    · exact hm h
    · exact (hm h).trans (hab.trans (hm h'))
    · exact (hm h).trans (hab.symm.trans (hm h'))
/-- Labels: to each vertex the least one that it hangs together with. -/
def Lab (n : Nat) (E : List (Int × Int)) (l : List Int) : Prop :=
  l.length = n ∧ ∀ (v : Nat) (x : Int), l[v]? = some x → Con E v x ∧ 0 ≤ x ∧ ∀ u : Int, 0 ≤ u → Con E v u → x ≤ u
theorem Lab.le {n : Nat} {E : List (Int × Int)} {l : List Int} (h : Lab n E l) {v : Nat} {x : Int} (hx : l[v]? = some x) : x ≤ v :=
  (h.2 v x hx).2.2 v (Int.natCast_nonneg v) (.refl _)
theorem Lab.lt {n : Nat} {E : List (Int × Int)} {l : List Int} (h : Lab n E l) {v : Nat} {x : Int} (hx : l[v]? = some x) : 0 ≤ x ∧ x < n := by
  have h1 := h.le hx
  have h2 := (List.getElem?_eq_some_iff.1 hx).1
  have h3 := (h.2 v x hx).2.1
  have h4 := h.1
  omega
theorem Lab.iff {n : Nat} {E : List (Int × Int)} {l : List Int} (h : Lab n E l) {u v : Nat} {x y : Int} (hx : l[u]? = some x) (hy : l[v]? = some y) : x = y ↔ Con E u v := by
  have h1 := h.2 u x hx
  have h2 := h.2 v y hy
  constructor
  · intro e
    subst e
    exact h1.1.trans h2.1.symm
  · intro c
    have a := h1.2.2 y h2.2.1 (c.trans h2.1)
    have b := h2.2.2 x h1.2.1 (c.symm.trans h1.1)
    omega
/-- A label is its own label. -/
theorem Lab.self {n : Nat} {E : List (Int × Int)} {l : List Int} (h : Lab n E l) {v : Nat} {x : Int} (hx : l[v]? = some x) : l[x.toNat]? = some x := by
  have h1 := h.lt hx
  have hi : x.toNat < l.length := by rw [h.1]; omega
  rw [List.getElem?_eq_getElem hi]
  have h2 := h.2 v x hx
  have hc : Con E (x.toNat : Int) v := by rw [Int.toNat_of_nonneg h1.1]; exact h2.1.symm
  rw [(h.iff (List.getElem?_eq_getElem hi) hx).2 hc]
section
variable {n : Nat} {E : List (Int × Int)} {L : List Int}
/-- On the way down to the labels. -/
def Dn (n : Nat) (E : List (Int × Int)) (l : List Int) : Prop := l.length = n ∧ ∀ (v : Nat) (x : Int), l[v]? = some x → Con E v x ∧ 0 ≤ x
theorem Dn.set {l : List Int} (h : Dn n E l) {v : Nat} {x : Int} (hc : Con E v x) (h0 : 0 ≤ x) : Dn n E (l.set v x) := by
  refine ⟨by simp [h.1], fun u y hu => ?_⟩
  rw [List.getElem?_set] at hu
  split at hu
  · subst v
    split at hu
    · cases hu; exact ⟨hc, h0⟩
    · cases hu
  · exact h.2 u y hu
end
theorem h_sl01In (a b c : Int) : g_sl01In (a, b, c) = some (decide (b ≤ a) && decide (a ≤ c), ()) := by
  show f_sl01In BIG _ = _
  rw [e_sl01In]
  cases decide (b ≤ a) <;> rfl
theorem h_iin (a b c : Int) : g_iin (a, b, c) = some (decide (b ≤ a) && decide (a ≤ c), ()) := by
  show f_iin BIG _ = _
  rw [e_iin]
  cases decide (b ≤ a) <;> rfl
open Classical in
open Classical in
def inB (a b c : Int) : Bool := decide (b ≤ a) && decide (a ≤ c)
theorem h_sl01In' (a b c : Int) : g_sl01In (a, b, c) = some (inB a b c, ()) := h_sl01In a b c
theorem h_iin' (a b c : Int) : g_iin (a, b, c) = some (inB a b c, ()) := h_iin a b c
theorem eq_Edge (x0 : Int) (x1 : Int) (y0 : Int) (y1 : Int) : g_leqEdge ((x0, x1), (y0, y1)) = some (decide ((x0, x1) = (y0, y1)), ()) := by
  show f_leqEdge BIG _ = _
  rw [e_leqEdge]
  dsimp only
  by_cases c0 : x0 = y0
  case neg =>
    simp [c0]
  rw [decide_eq_true c0, Bool.not_true, cond_false]
  by_cases c1 : x1 = y1
  case neg =>
    simp [c1]
  rw [decide_eq_true c1, Bool.not_true, cond_false]
  rw [decide_eq_true (by simp_all)]
theorem eq_Ledge (x0 : Int) (x1 : Int) (x2 : Int) (x3 : Bool) (y0 : Int) (y1 : Int) (y2 : Int) (y3 : Bool) : g_leqLedge ((x0, x1, x2, x3), (y0, y1, y2, y3)) = some (decide ((x0, x1, x2, x3) = (y0, y1, y2, y3)), ()) := by
  show f_leqLedge BIG _ = _
  rw [e_leqLedge]
  dsimp only
  by_cases c0 : x0 = y0
  case neg =>
    simp [c0]
  rw [decide_eq_true c0, Bool.not_true, cond_false]
  by_cases c1 : x1 = y1
  case neg =>
    simp [c1]
  rw [decide_eq_true c1, Bool.not_true, cond_false]
  by_cases c2 : x2 = y2
  case neg =>
    simp [c2]
  rw [decide_eq_true c2, Bool.not_true, cond_false]
  by_cases c3 : x3 = y3
  case neg =>
    rw [show (x3 == y3) = false from by simp [c3]]; simp [c3]
  rw [show (x3 == y3) = true from by simp [c3], Bool.not_true, cond_false]
  rw [decide_eq_true (by simp_all)]
theorem eq_IntS (a b : List (Int)) (h : a.length ≤ 4294967296) : g_leqIntS (a, b) = some (decide (a = b), ()) := by
  have hm : maxLen = 9223372036854775807 := by decide
  show f_leqIntS BIG _ = _
  rw [e_leqIntS]
  by_cases hl : a.length = b.length
  · rw [decide_eq_true (by omega), Bool.not_true, cond_false, eqLoop a b (by omega) hl false]
    · by_cases h : a = b <;> simp [h]
    · intro self i x y hx hy
      have hi := (List.getElem?_eq_some_iff.1 hx).1
      simp only [show ((i : Int) < (a.length : Int)) from by omega, decide_true, cond_true]
      rw [bnd_nat hi, hx, Option.bind_some, bnd_nat (by omega), hy, Option.bind_some]
      rw [wr1 (by omega)]
      by_cases h : x = y <;> simp [h]
    · intro self
      simp
  · rw [decide_eq_false (by omega), Bool.not_false, cond_true, decide_eq_false (fun h => hl (by rw [h]))]
def hd_IntS (k : Int) (z : Int) (k' : Int) : Prop := z = k ∧ k' = k + 1 ∧ 0 ≤ k ∧ k ≤ 4611686018427387904
theorem mh_IntS (a : List (Int)) (k : Int) (h0 : 0 ≤ k) (hk : k + 16777216 ≤ 4611686018427387904) (hz : a.length ≤ 16777216) : ∃ t c, g_lmarkIntS (a, k) = some (c, t) ∧ g_lheldIntS (t, k) = some (c, ()) ∧ k ≤ c ∧ c ≤ k + 16777216 := by
  have hm : maxLen = 9223372036854775807 := by decide
  have L := mkLoop hd_IntS 1 (by omega) a k (by omega) (F := fun self1 x0 =>
    bif decide (x0.2.2 < (x0.1.length : Int)) then
     bnd x0.1.length x0.2.2 fun n2 =>
     Option.bind x0.1[n2]? fun y3 =>
     self1 (x0.1.set n2 x0.2.1, IntKind.wrap .i64 (x0.2.1 + (1 : Int)), IntKind.wrap .i64 (x0.2.2 + (1 : Int)))
    else some (x0.1, x0.2.1)) (by
    intro self out i k y hi hl hy _ hk0 hk1
    have hi' : i < out.length := by omega
    have w1 : IntKind.wrap .i64 (k + 1) = k + 1 := wr (by omega) (by omega)
    refine ⟨k, k + 1, ⟨rfl, rfl, by omega, by omega⟩, by omega, by omega, ?_⟩
    simp only [hl, show ((i : Int) < (a.length : Int)) from by omega, decide_true, cond_true, List.length_set, bnd_nat hi, hy, List.getElem?_set_self hi', Option.bind_some, List.set_set, w1, and_true]
    rw [wr1 (by omega)]) (by
    intro self out k hl
    simp [hl])
  obtain ⟨t, c, e1, e2, e3, e4, e5⟩ := L
  refine ⟨t, c, ?_, ?_, e4, by omega⟩
  · show f_lmarkIntS BIG _ = _
    rw [e_lmarkIntS, e1]
    rfl
  · show f_lheldIntS BIG _ = _
    rw [e_lheldIntS, hdLoop hd_IntS t k c (by omega) e2]
    · rfl
    · intro self i kk kk' z hz ⟨g1, g2, g3, g4⟩
      subst g2
      rw [g1] at hz
      have hi := (List.getElem?_eq_some_iff.1 hz).1
      have w1 : IntKind.wrap .i64 (kk + 1) = kk + 1 := wr (by omega) (by omega)
      simp only [show ((i : Int) < (t.length : Int)) from by omega, decide_true, cond_true, bnd_nat hi, hz, Option.bind_some, w1, Bool.not_true, cond_false, beq_self_eq_true]
      rw [wr1 (by omega)]
    · intro self k
      simp
theorem eq_EdgeS (a b : List (Int × Int)) (h : a.length ≤ 4294967296) : g_leqEdgeS (a, b) = some (decide (a = b), ()) := by
  have hm : maxLen = 9223372036854775807 := by decide
  show f_leqEdgeS BIG _ = _
  rw [e_leqEdgeS]
  by_cases hl : a.length = b.length
  · rw [decide_eq_true (by omega), Bool.not_true, cond_false, eqLoop a b (by omega) hl false]
    · by_cases h : a = b <;> simp [h]
    · intro self i x y hx hy
      have hi := (List.getElem?_eq_some_iff.1 hx).1
      simp only [show ((i : Int) < (a.length : Int)) from by omega, decide_true, cond_true]
      rw [bnd_nat hi, hx, Option.bind_some, bnd_nat (by omega), hy, Option.bind_some]
      rw [wr1 (by omega)]
      rw [eq_Edge _ _ _ _, Option.bind_some]
      by_cases h : x = y <;> simp [h]
    · intro self
      simp
  · rw [decide_eq_false (by omega), Bool.not_false, cond_true, decide_eq_false (fun h => hl (by rw [h]))]
def hd_EdgeS (k : Int) (z : Int × Int) (k' : Int) : Prop := z = (k, k + 1) ∧ k' = k + 1 + 1 ∧ 0 ≤ k ∧ k ≤ 4611686018427387904
theorem mh_EdgeS (a : List (Int × Int)) (k : Int) (h0 : 0 ≤ k) (hk : k + 33554432 ≤ 4611686018427387904) (hz : a.length ≤ 16777216) : ∃ t c, g_lmarkEdgeS (a, k) = some (c, t) ∧ g_lheldEdgeS (t, k) = some (c, ()) ∧ k ≤ c ∧ c ≤ k + 33554432 := by
  have hm : maxLen = 9223372036854775807 := by decide
  have L := mkLoop hd_EdgeS 2 (by omega) a k (by omega) (F := fun self1 x0 =>
    bif decide (x0.2.2 < (x0.1.length : Int)) then
     bnd x0.1.length x0.2.2 fun n2 =>
     Option.bind x0.1[n2]? fun y3 =>
     bnd (x0.1.set n2 (x0.2.1, y3.2)).length x0.2.2 fun n4 =>
     Option.bind (x0.1.set n2 (x0.2.1, y3.2))[n4]? fun y5 =>
     self1 ((x0.1.set n2 (x0.2.1, y3.2)).set n4 (y5.1, IntKind.wrap .i64 (x0.2.1 + (1 : Int))), IntKind.wrap .i64 ((IntKind.wrap .i64 (x0.2.1 + (1 : Int))) + (1 : Int)), IntKind.wrap .i64 (x0.2.2 + (1 : Int)))
    else some (x0.1, x0.2.1)) (by
    intro self out i k y hi hl hy _ hk0 hk1
    have hi' : i < out.length := by omega
    have w1 : IntKind.wrap .i64 (k + 1) = k + 1 := wr (by omega) (by omega)
    have w2 : IntKind.wrap .i64 (k + 1 + 1) = k + 1 + 1 := wr (by omega) (by omega)
    refine ⟨(k, k + 1), k + 1 + 1, ⟨rfl, rfl, by omega, by omega⟩, by omega, by omega, ?_⟩
    simp only [hl, show ((i : Int) < (a.length : Int)) from by omega, decide_true, cond_true, List.length_set, bnd_nat hi, hy, List.getElem?_set_self hi', Option.bind_some, List.set_set, w1, w2, and_true]
    rw [wr1 (by omega)]) (by
    intro self out k hl
    simp [hl])
  obtain ⟨t, c, e1, e2, e3, e4, e5⟩ := L
  refine ⟨t, c, ?_, ?_, e4, by omega⟩
  · show f_lmarkEdgeS BIG _ = _
    rw [e_lmarkEdgeS, e1]
    rfl
  · show f_lheldEdgeS BIG _ = _
    rw [e_lheldEdgeS, hdLoop hd_EdgeS t k c (by omega) e2]
    · rfl
    · intro self i kk kk' z hz ⟨g1, g2, g3, g4⟩
      subst g2
      rw [g1] at hz
      have hi := (List.getElem?_eq_some_iff.1 hz).1
      have w1 : IntKind.wrap .i64 (kk + 1) = kk + 1 := wr (by omega) (by omega)
      have w2 : IntKind.wrap .i64 (kk + 1 + 1) = kk + 1 + 1 := wr (by omega) (by omega)
      simp only [show ((i : Int) < (t.length : Int)) from by omega, decide_true, cond_true, bnd_nat hi, hz, Option.bind_some, w1, w2, Bool.not_true, cond_false, beq_self_eq_true]
      rw [wr1 (by omega)]
    · intro self k
      simp
theorem eq_LedgeS (a b : List (Int × Int × Int × Bool)) (h : a.length ≤ 4294967296) : g_leqLedgeS (a, b) = some (decide (a = b), ()) := by
  have hm : maxLen = 9223372036854775807 := by decide
  show f_leqLedgeS BIG _ = _
  rw [e_leqLedgeS]
  by_cases hl : a.length = b.length
  · rw [decide_eq_true (by omega), Bool.not_true, cond_false, eqLoop a b (by omega) hl false]
    · by_cases h : a = b <;> simp [h]
    · intro self i x y hx hy
      have hi := (List.getElem?_eq_some_iff.1 hx).1
      simp only [show ((i : Int) < (a.length : Int)) from by omega, decide_true, cond_true]
      rw [bnd_nat hi, hx, Option.bind_some, bnd_nat (by omega), hy, Option.bind_some]
      rw [wr1 (by omega)]
      rw [eq_Ledge _ _ _ _ _ _ _ _, Option.bind_some]
      by_cases h : x = y <;> simp [h]
    · intro self
      simp
  · rw [decide_eq_false (by omega), Bool.not_false, cond_true, decide_eq_false (fun h => hl (by rw [h]))]
def hd_LedgeS (k : Int) (z : Int × Int × Int × Bool) (k' : Int) : Prop := z = (k, k + 1, k + 1 + 1, decide (Int.tmod (k + 1 + 1 + 1) 3 = 0)) ∧ k' = k + 1 + 1 + 1 + 1 ∧ 0 ≤ k ∧ k ≤ 4611686018427387904
theorem mh_LedgeS (a : List (Int × Int × Int × Bool)) (k : Int) (h0 : 0 ≤ k) (hk : k + 67108864 ≤ 4611686018427387904) (hz : a.length ≤ 16777216) : ∃ t c, g_lmarkLedgeS (a, k) = some (c, t) ∧ g_lheldLedgeS (t, k) = some (c, ()) ∧ k ≤ c ∧ c ≤ k + 67108864 := by
  have hm : maxLen = 9223372036854775807 := by decide
  have L := mkLoop hd_LedgeS 4 (by omega) a k (by omega) (F := fun self1 x0 =>
    bif decide (x0.2.2 < (x0.1.length : Int)) then
     bnd x0.1.length x0.2.2 fun n2 =>
     Option.bind x0.1[n2]? fun y3 =>
     bnd (x0.1.set n2 (x0.2.1, y3.2)).length x0.2.2 fun n4 =>
     Option.bind (x0.1.set n2 (x0.2.1, y3.2))[n4]? fun y5 =>
     bnd ((x0.1.set n2 (x0.2.1, y3.2)).set n4 (y5.1, IntKind.wrap .i64 (x0.2.1 + (1 : Int)), y5.2.2)).length x0.2.2 fun n6 =>
     Option.bind ((x0.1.set n2 (x0.2.1, y3.2)).set n4 (y5.1, IntKind.wrap .i64 (x0.2.1 + (1 : Int)), y5.2.2))[n6]? fun y7 =>
     bif decide ((3 : Int) = 0) then
      none
     else bnd (((x0.1.set n2 (x0.2.1, y3.2)).set n4 (y5.1, IntKind.wrap .i64 (x0.2.1 + (1 : Int)), y5.2.2)).set n6 (y7.1, y7.2.1, IntKind.wrap .i64 ((IntKind.wrap .i64 (x0.2.1 + (1 : Int))) + (1 : Int)), y7.2.2.2)).length x0.2.2 fun n8 =>
     Option.bind (((x0.1.set n2 (x0.2.1, y3.2)).set n4 (y5.1, IntKind.wrap .i64 (x0.2.1 + (1 : Int)), y5.2.2)).set n6 (y7.1, y7.2.1, IntKind.wrap .i64 ((IntKind.wrap .i64 (x0.2.1 + (1 : Int))) + (1 : Int)), y7.2.2.2))[n8]? fun y9 =>
     self1 ((((x0.1.set n2 (x0.2.1, y3.2)).set n4 (y5.1, IntKind.wrap .i64 (x0.2.1 + (1 : Int)), y5.2.2)).set n6 (y7.1, y7.2.1, IntKind.wrap .i64 ((IntKind.wrap .i64 (x0.2.1 + (1 : Int))) + (1 : Int)), y7.2.2.2)).set n8 (y9.1, y9.2.1, y9.2.2.1, decide ((Int.tmod (IntKind.wrap .i64 ((IntKind.wrap .i64 ((IntKind.wrap .i64 (x0.2.1 + (1 : Int))) + (1 : Int))) + (1 : Int))) (3 : Int)) = (0 : Int))), IntKind.wrap .i64 ((IntKind.wrap .i64 ((IntKind.wrap .i64 ((IntKind.wrap .i64 (x0.2.1 + (1 : Int))) + (1 : Int))) + (1 : Int))) + (1 : Int)), IntKind.wrap .i64 (x0.2.2 + (1 : Int)))
    else some (x0.1, x0.2.1)) (by
    intro self out i k y hi hl hy _ hk0 hk1
    have hi' : i < out.length := by omega
    have w1 : IntKind.wrap .i64 (k + 1) = k + 1 := wr (by omega) (by omega)
    have w2 : IntKind.wrap .i64 (k + 1 + 1) = k + 1 + 1 := wr (by omega) (by omega)
    have w3 : IntKind.wrap .i64 (k + 1 + 1 + 1) = k + 1 + 1 + 1 := wr (by omega) (by omega)
    have w4 : IntKind.wrap .i64 (k + 1 + 1 + 1 + 1) = k + 1 + 1 + 1 + 1 := wr (by omega) (by omega)
    refine ⟨(k, k + 1, k + 1 + 1, decide (Int.tmod (k + 1 + 1 + 1) 3 = 0)), k + 1 + 1 + 1 + 1, ⟨rfl, rfl, by omega, by omega⟩, by omega, by omega, ?_⟩
    simp only [hl, show ((i : Int) < (a.length : Int)) from by omega, decide_true, cond_true, List.length_set, bnd_nat hi, hy, List.getElem?_set_self hi', Option.bind_some, List.set_set, w1, w2, w3, w4, show decide ((3 : Int) = 0) = false from rfl, cond_false, and_true]
    rw [wr1 (by omega)]) (by
    intro self out k hl
    simp [hl])
  obtain ⟨t, c, e1, e2, e3, e4, e5⟩ := L
  refine ⟨t, c, ?_, ?_, e4, by omega⟩
  · show f_lmarkLedgeS BIG _ = _
    rw [e_lmarkLedgeS, e1]
    rfl
  · show f_lheldLedgeS BIG _ = _
    rw [e_lheldLedgeS, hdLoop hd_LedgeS t k c (by omega) e2]
    · rfl
    · intro self i kk kk' z hz ⟨g1, g2, g3, g4⟩
      subst g2
      rw [g1] at hz
      have hi := (List.getElem?_eq_some_iff.1 hz).1
      have w1 : IntKind.wrap .i64 (kk + 1) = kk + 1 := wr (by omega) (by omega)
      have w2 : IntKind.wrap .i64 (kk + 1 + 1) = kk + 1 + 1 := wr (by omega) (by omega)
      have w3 : IntKind.wrap .i64 (kk + 1 + 1 + 1) = kk + 1 + 1 + 1 := wr (by omega) (by omega)
      have w4 : IntKind.wrap .i64 (kk + 1 + 1 + 1 + 1) = kk + 1 + 1 + 1 + 1 := wr (by omega) (by omega)
      simp only [show ((i : Int) < (t.length : Int)) from by omega, decide_true, cond_true, bnd_nat hi, hz, Option.bind_some, w1, w2, w3, w4, Bool.not_true, cond_false, show decide ((3 : Int) = 0) = false from rfl, cond_false, beq_self_eq_true]
      rw [wr1 (by omega)]
    · intro self k
      simp
theorem eq_Web (x0 : Int) (x1 : List (Int × Int × Int × Bool)) (h : (x1.length) ≤ 4294967296) : g_leqWeb ((x0, x1), (x0, x1)) = some (true, ()) := by
  show f_leqWeb BIG _ = _
  rw [e_leqWeb]
  dsimp only
  rw [decide_eq_true rfl, Bool.not_true, cond_false]
  rw [eq_LedgeS x1 x1 (by omega), Option.bind_some]
  rw [decide_eq_true rfl, Bool.not_true, cond_false]
theorem mh_Web (x0 : Int) (x1 : List (Int × Int × Int × Bool)) (k : Int) (h0 : 0 ≤ k) (hk : k + 67108864 ≤ 4611686018427387904) (hz : (x1.length) ≤ 16777216) : ∃ t1 c, g_lmarkWeb ((x0, x1), k) = some (c, (x0, t1)) ∧ g_lheldWeb ((x0, t1), k) = some (c, ()) ∧ k ≤ c ∧ c ≤ k + 67108864 := by
  obtain ⟨t1, c0, m0, d0, l0, u0⟩ := mh_LedgeS x1 k (by omega) (by omega) (by omega)
  refine ⟨t1, c0, ?_, ?_, by omega, by omega⟩
  · show f_lmarkWeb BIG _ = _
    rw [e_lmarkWeb]
    dsimp only
    rw [m0, Option.bind_some]
  · show f_lheldWeb BIG _ = _
    rw [e_lheldWeb]
    dsimp only
    rw [d0, Option.bind_some]
    dsimp only
    rw [decide_eq_false (by omega), cond_false]
theorem eq_Answer (x0 : Int) (x1 : Bool) (x2 : List (Int × Int)) (x3 : List (Int)) (h : (x2.length + x3.length) ≤ 4294967296) : g_leqAnswer ((x0, x1, x2, x3), (x0, x1, x2, x3)) = some (true, ()) := by
  show f_leqAnswer BIG _ = _
  rw [e_leqAnswer]
  dsimp only
  rw [decide_eq_true rfl, Bool.not_true, cond_false]
  rw [beq_self_eq_true, Bool.not_true, cond_false]
  rw [eq_EdgeS x2 x2 (by omega), Option.bind_some]
  rw [decide_eq_true rfl, Bool.not_true, cond_false]
  rw [eq_IntS x3 x3 (by omega), Option.bind_some]
  rw [decide_eq_true rfl, Bool.not_true, cond_false]
theorem mh_Answer (x0 : Int) (x1 : Bool) (x2 : List (Int × Int)) (x3 : List (Int)) (k : Int) (h0 : 0 ≤ k) (hk : k + 50331648 ≤ 4611686018427387904) (hz : (x2.length + x3.length) ≤ 16777216) : ∃ t2 t3 c, g_lmarkAnswer ((x0, x1, x2, x3), k) = some (c, (x0, x1, t2, t3)) ∧ g_lheldAnswer ((x0, x1, t2, t3), k) = some (c, ()) ∧ k ≤ c ∧ c ≤ k + 50331648 := by
  obtain ⟨t2, c0, m0, d0, l0, u0⟩ := mh_EdgeS x2 k (by omega) (by omega) (by omega)
  obtain ⟨t3, c1, m1, d1, l1, u1⟩ := mh_IntS x3 c0 (by omega) (by omega) (by omega)
  refine ⟨t2, t3, c1, ?_, ?_, by omega, by omega⟩
  · show f_lmarkAnswer BIG _ = _
    rw [e_lmarkAnswer]
    dsimp only
    rw [m0, Option.bind_some, m1, Option.bind_some]
  · show f_lheldAnswer BIG _ = _
    rw [e_lheldAnswer]
    dsimp only
    rw [d0, Option.bind_some]
    dsimp only
    rw [decide_eq_false (by omega), cond_false]
    rw [d1, Option.bind_some]
    dsimp only
    rw [decide_eq_false (by omega), cond_false]
theorem eq_Shard (x0 : Int) (x1 : Int) (x2 : List (Int × Int × Int × Bool)) (x3 : Int) (x4 : Bool) (x5 : List (Int × Int)) (x6 : List (Int)) (h : (x2.length + x5.length + x6.length) ≤ 4294967296) : g_leqShard ((x0, x1, x2, x3, x4, x5, x6), (x0, x1, x2, x3, x4, x5, x6)) = some (true, ()) := by
  show f_leqShard BIG _ = _
  rw [e_leqShard]
  dsimp only
  rw [decide_eq_true rfl, Bool.not_true, cond_false]
  rw [eq_Web x1 x2 (by omega), Option.bind_some]
  rw [Bool.not_true, cond_false]
  rw [eq_Answer x3 x4 x5 x6 (by omega), Option.bind_some]
  rw [Bool.not_true, cond_false]
theorem mh_Shard (x0 : Int) (x1 : Int) (x2 : List (Int × Int × Int × Bool)) (x3 : Int) (x4 : Bool) (x5 : List (Int × Int)) (x6 : List (Int)) (k : Int) (h0 : 0 ≤ k) (hk : k + 117440512 ≤ 4611686018427387904) (hz : (x2.length + x5.length + x6.length) ≤ 16777216) : ∃ t2 t5 t6 c, g_lmarkShard ((x0, x1, x2, x3, x4, x5, x6), k) = some (c, (x0, x1, t2, x3, x4, t5, t6)) ∧ g_lheldShard ((x0, x1, t2, x3, x4, t5, t6), k) = some (c, ()) ∧ k ≤ c ∧ c ≤ k + 117440512 := by
  obtain ⟨t2, c0, m0, d0, l0, u0⟩ := mh_Web x1 x2 k (by omega) (by omega) (by omega)
  obtain ⟨t5, t6, c1, m1, d1, l1, u1⟩ := mh_Answer x3 x4 x5 x6 c0 (by omega) (by omega) (by omega)
  refine ⟨t2, t5, t6, c1, ?_, ?_, by omega, by omega⟩
  · show f_lmarkShard BIG _ = _
    rw [e_lmarkShard]
    dsimp only
    rw [m0, Option.bind_some, m1, Option.bind_some]
  · show f_lheldShard BIG _ = _
    rw [e_lheldShard]
    dsimp only
    rw [d0, Option.bind_some]
    dsimp only
    rw [decide_eq_false (by omega), cond_false]
    rw [d1, Option.bind_some]
    dsimp only
    rw [decide_eq_false (by omega), cond_false]
theorem h_iWebNew (n : Int) : g_iWebNew n = some (if inB n 1 12 then (n, [], true) else (0, [], false), ()) := by
  show f_iWebNew BIG _ = _
  rw [e_iWebNew, h_iin', Option.bind_some]
  cases inB n 1 12 <;> rfl
theorem h_sWebNew (n : Int) : g_sWebNew n = some (if inB n 1 12 then (n, [], true) else (0, [], false), ()) := by
  show f_sWebNew BIG _ = _
  rw [e_sWebNew, h_sl01In', Option.bind_some]
  cases inB n 1 12 <;> rfl
theorem h_iShardNew (a b : Int) : g_iShardNew (a, b) = some (if inB a 1 3 && inB b 1 12 then (a, b, [], 0, false, [], [], true) else (0, 0, [], 0, false, [], [], false), ()) := by
  show f_iShardNew BIG _ = _
  rw [e_iShardNew, h_iWebNew, h_iin']
  cases inB a 1 3 <;> cases inB b 1 12 <;> rfl
theorem h_sShardNew (a b : Int) : g_sShardNew (a, b) = some (if inB a 1 3 && inB b 1 12 then (a, b, [], 0, false, [], [], true) else (0, 0, [], 0, false, [], [], false), ()) := by
  show f_sShardNew BIG _ = _
  rw [e_sShardNew, h_sWebNew, h_sl01In']
  cases inB a 1 3 <;> cases inB b 1 12 <;> rfl
theorem neg_f {c : Int} (h : 1 ≤ c) : decide (c < 0) = false := decide_eq_false (by omega)
theorem law_lFnExactShardNew (a b : Int) : g_lFnExactShardNew (a, b) = some (true, ()) := by
  show f_lFnExactShardNew BIG _ = _
  have key : ∀ r : Int × Int × List (Int × Int × Int × Bool) × Int × Bool × List (Int × Int) × List Int × Bool, r.2.2.1 = [] → r.2.2.2.2.2.1 = [] → r.2.2.2.2.2.2.1 = [] → g_iShardNew (a, b) = some (r, ()) → g_sShardNew (a, b) = some (r, ()) → f_lFnExactShardNew BIG (a, b) = some (true, ()) := by
    rintro ⟨x0, x1, x2, x3, x4, x5, x6, x7⟩ h2 h5 h6 hi hs
    simp only at h2 h5 h6
    subst h2 h5 h6
    obtain ⟨t2, t5, t6, c, m, d, l, u⟩ := mh_Shard x0 x1 [] x3 x4 [] [] 1 (by omega) (by omega) (by simp)
    rw [e_lFnExactShardNew, hi, hs]
    simp only [Option.bind_some, eq_Shard x0 x1 [] x3 x4 [] [] (by simp), Bool.not_true, cond_false, beq_self_eq_true, m, d, neg_f l, decide_true]
  rw [← show f_lFnExactShardNew BIG (a, b) = f_lFnExactShardNew BIG (a, b) from rfl]
  by_cases h : (inB a 1 3 && inB b 1 12) = true
  · exact key (a, b, [], 0, false, [], [], true) rfl rfl rfl (by rw [h_iShardNew, if_pos h]) (by rw [h_sShardNew, if_pos h])
  · exact key (0, 0, [], 0, false, [], [], false) rfl rfl rfl (by rw [h_iShardNew, if_neg h]) (by rw [h_sShardNew, if_neg h])
end Go.Fw
