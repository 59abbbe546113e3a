/- What the given functions come to. No conditions. -/
import Derived.Test.YtojipknoidbbgaaX0
import Derived.IntWalk
set_option linter.unusedVariables false
set_option linter.unusedSimpArgs false
namespace Go.Fw

theorem loop_rel {X B : Type} {F : (X → Option B) → X → Option B} (I : X → Prop) (μ : X → Nat) (Q : X → B → Prop)
    (h : ∀ self x, I x → (∀ y, I y → μ y < μ x → ∃ b, self y = some b ∧ Q y b) → ∃ b, F self x = some b ∧ Q x b) : ∀ {n : Nat} {x : X}, μ x < n → I x → ∃ b, loopT n F x = some b ∧ Q x b
  | 0, _, hn, _ => absurd hn (Nat.not_lt_zero _)
  | n + 1, x, hn, hi => h (it F n) x hi fun _ hy hm => loop_rel I μ Q h (n := n) (by omega) hy
theorem loop_eq {X B : Type} {F : (X → Option B) → X → Option B} (I : X → Prop) (μ : X → Nat) (R : X → B)
    (h : ∀ self x, I x → (∀ y, I y → μ y < μ x → self y = some (R y)) → F self x = some (R x)) {n : Nat} {x : X} (hn : μ x < n) (hi : I x) : loopT n F x = some (R x) := by
  obtain ⟨b, h1, h2⟩ := loop_rel (F := F) I μ (fun x b => b = R x) (fun self x hx hs => ⟨_, h self x hx fun y hy hm => by obtain ⟨b, h1, h2⟩ := hs y hy hm; rw [h1, h2], rfl⟩) hn hi
  rw [h1, h2]
theorem wr {n : Int} (h : -9223372036854775808 ≤ n) (h' : n ≤ 9223372036854775807) : IntKind.wrap .i64 n = n := by
  rw [IntKind.wrap_i64]; omega
theorem wr1 {i : Nat} (h : i < maxLen) : IntKind.wrap .i64 ((i : Int) + 1) = ((i + 1 : Nat) : Int) := by
  have : maxLen = 9223372036854775807 := by decide
  rw [wr (by omega) (by omega)]; rfl
theorem bnd_ok {B : Type} {len : Nat} {i : Int} {k : Nat → Option B} (h : 0 ≤ i) (h' : i < len) : bnd len i k = k i.toNat := by
  unfold bnd
  rw [if_pos ⟨h, by omega⟩]
theorem bnd_nat {B : Type} {len : Nat} {i : Nat} {k : Nat → Option B} (h' : i < len) : bnd len (i : Int) k = k i := by
  rw [bnd_ok (Int.natCast_nonneg i) (by omega)]
  simp
/-- A loop that goes through a row, and is left at the first place where it is told so. -/
theorem allLoop {α B : Type} (a : List α) (hl : a.length < 18446744073709551616) {F : (Int → Option (Unit ⊕ B)) → Int → Option (Unit ⊕ B)} (p : Nat → Bool) (b : B)
    (hF : ∀ self (i : Nat) y, a[i]? = some y → F self (i : Int) = if p i then self ((i + 1 : Nat) : Int) else some (.inr b))
    (hE : ∀ self, F self (a.length : Int) = some (.inl ())) : loopT BIG F 0 = some (if ∀ i, i < a.length → p i = true then .inl () else .inr b) := by
  have hh := loop_rel (F := F) (fun x => ∃ i : Nat, x = i ∧ i ≤ a.length) (fun x => a.length - x.toNat) (fun x r => ((∀ i : Nat, x ≤ (i : Int) → i < a.length → p i = true) ∧ r = .inl ()) ∨ ((∃ i : Nat, i < a.length ∧ p i = false) ∧ r = .inr b)) (fun self x ⟨i, h1, h2⟩ hs => ?_) (n := BIG) (x := 0) (by simp; exact hl) ⟨0, rfl, by simp⟩
  · obtain ⟨r, hr, hq⟩ := hh
    rw [hr]
    congr 1
    rcases hq with ⟨h1, rfl⟩ | ⟨⟨i, h1, h2⟩, rfl⟩
    · rw [if_pos fun i hi => h1 i (by omega) hi]
    · rw [if_neg]
      intro h
      rw [h i h1] at h2; cases h2
  · subst h1
    by_cases hi : i < a.length
    · rw [hF self i a[i] (List.getElem?_eq_getElem hi)]
      cases hp : p i with
      | true =>
        rw [if_pos rfl]
        obtain ⟨r, hr, hq⟩ := hs _ ⟨i + 1, rfl, hi⟩ (by simp; omega)
        refine ⟨r, hr, ?_⟩
        rcases hq with ⟨h1, rfl⟩ | h1
        · refine .inl ⟨fun k hk hk' => ?_, rfl⟩
          by_cases h : k = i
          · subst h; exact hp
          · exact h1 k (by omega) hk'
        · exact .inr h1
      | false => exact ⟨_, rfl, .inr ⟨⟨i, hi, hp⟩, rfl⟩⟩
    · have : i = a.length := by omega
      subst this
      exact ⟨_, hE self, .inl ⟨fun k hk hk' => by omega, rfl⟩⟩
theorem maxLen_lt : maxLen < 18446744073709551616 := by decide
/-- Two rows that are looked at side by side. -/
theorem eqLoop {α B : Type} [DecidableEq α] (a b : List α) (hl : a.length ≤ maxLen) (hab : a.length = b.length) {F : (Int → Option (Unit ⊕ B)) → Int → Option (Unit ⊕ B)} (r : B)
    (hF : ∀ self (i : Nat) x y, a[i]? = some x → b[i]? = some y → F self (i : Int) = if x = y then self ((i + 1 : Nat) : Int) else some (.inr r))
    (hE : ∀ self, F self (a.length : Int) = some (.inl ())) : loopT BIG F 0 = some (if a = b then .inl () else .inr r) := by
  rw [allLoop a (Nat.lt_of_le_of_lt hl maxLen_lt) (fun i => decide (a[i]? = b[i]?)) r (fun self i y hy => ?_) hE]
  · congr 1
    by_cases h : a = b
    · subst h; simp
    · rw [if_neg h, if_neg]
      intro h'
      apply h
      apply List.ext_getElem? fun i => ?_
      by_cases hi : i < a.length
      · simpa using h' i hi
      · rw [List.getElem?_eq_none (by omega), List.getElem?_eq_none (by omega)]
  · have hi := (List.getElem?_eq_some_iff.1 hy).1
    have hb : b[i]? = some (b[i]'(by omega)) := List.getElem?_eq_getElem (by omega)
    rw [hF self i y _ hy hb, hy, hb]
    simp
/-- A loop that goes through a row and keeps an account. -/
theorem foldLoop {α S B : Type} (a : List α) (hl : a.length < 18446744073709551616) {F : (S × Int → Option B) → S × Int → Option B} (I : Nat → S → Prop) (st : S → α → S) (R : S → B) {s0 : S} (h0 : I 0 s0)
    (hI : ∀ i s y, a[i]? = some y → I i s → I (i + 1) (st s y)) (hF : ∀ self s (i : Nat) y, a[i]? = some y → I i s → F self (s, (i : Int)) = self (st s y, ((i + 1 : Nat) : Int)))
    (hE : ∀ self s, I a.length s → F self (s, (a.length : Int)) = some (R s)) : loopT BIG F (s0, 0) = some (R (a.foldl st s0)) := by
  have := loop_eq (F := F) (fun x => ∃ i : Nat, x.2 = i ∧ i ≤ a.length ∧ I i x.1) (fun x => a.length - x.2.toNat) (fun x => R ((a.drop x.2.toNat).foldl st x.1)) (fun self x ⟨i, h1, h2, h3⟩ hs => ?_) (n := BIG) (x := (s0, 0)) (by simp; exact hl) ⟨0, rfl, by simp, h0⟩
  · simpa using this
  · obtain ⟨s, j⟩ := x
    simp only at h1 h2 h3
    subst h1
    by_cases hi : i < a.length
    · have hy := List.getElem?_eq_getElem hi
      rw [hF self s i a[i] hy h3, hs _ ⟨i + 1, rfl, hi, hI _ _ _ hy h3⟩ (by simp; omega)]
      simp only [Int.toNat_natCast]
      rw [List.drop_eq_getElem_cons hi, List.foldl_cons]
    · have : i = a.length := by omega
      subst this
      rw [hE self s h3]
      simp
/-- Two vertices hang together by edges. -/
inductive Con (E : List (Int × Int)) : Int → Int → Prop
  | refl (v : Int) : Con E v v
  | fwd {u v w : Int} : Con E u v → (v, w) ∈ E → Con E u w
  | bwd {u v w : Int} : Con E u v → (w, v) ∈ E → Con E u w
theorem Con.trans {E : List (Int × Int)} {u v w : Int} (h : Con E u v) (h' : Con E v w) : Con E u w := by
  induction h' with
  | refl => exact h
  | fwd _ he ih => exact .fwd ih he
  | bwd _ he ih => exact .bwd ih he
theorem Con.symm {E : List (Int × Int)} {u v : Int} (h : Con E u v) : Con E v u := by
  induction h with
  | refl => exact .refl _
  | fwd _ he ih => exact Con.trans (.bwd (.refl _) he) ih
  | bwd _ he ih => exact Con.trans (.fwd (.refl _) he) ih
theorem Con.mono {E E' : List (Int × Int)} (hE : ∀ e, e ∈ E → e ∈ E') {u v : Int} (h : Con E u v) : Con E' u v := by
  induction h with
  | refl => exact .refl _
  | fwd _ he ih => exact .fwd ih (hE _ he)
  | bwd _ he ih => exact .bwd ih (hE _ he)
theorem Con.of {E : List (Int × Int)} {u v : Int} (h : (u, v) ∈ E) : Con E u v := .fwd (.refl _) h
theorem Con.nil {u v : Int} (h : Con [] u v) : u = v := by
  induction h with
  | refl => rfl
  | fwd _ he _ => cases he
  | bwd _ he _ => cases he
/-- Labels: to each vertex the least one that it hangs together with. -/
def Lab (n : Nat) (E : List (Int × Int)) (l : List Int) : Prop :=
  l.length = n ∧ ∀ (v : Nat) (x : Int), l[v]? = some x → Con E v x ∧ 0 ≤ x ∧ ∀ u : Int, 0 ≤ u → Con E v u → x ≤ u
theorem Lab.le {n : Nat} {E : List (Int × Int)} {l : List Int} (h : Lab n E l) {v : Nat} {x : Int} (hx : l[v]? = some x) : x ≤ v :=
  (h.2 v x hx).2.2 v (Int.natCast_nonneg v) (.refl _)
theorem Lab.lt {n : Nat} {E : List (Int × Int)} {l : List Int} (h : Lab n E l) {v : Nat} {x : Int} (hx : l[v]? = some x) : 0 ≤ x ∧ x < n := by
  have h1 := h.le hx
  have h2 := (List.getElem?_eq_some_iff.1 hx).1
  have h3 := (h.2 v x hx).2.1
  have h4 := h.1
  omega
theorem Lab.iff {n : Nat} {E : List (Int × Int)} {l : List Int} (h : Lab n E l) {u v : Nat} {x y : Int} (hx : l[u]? = some x) (hy : l[v]? = some y) : x = y ↔ Con E u v := by
  have h1 := h.2 u x hx
  have h2 := h.2 v y hy
  constructor
  · intro e
    subst e
    exact h1.1.trans h2.1.symm
  · intro c
    have a := h1.2.2 y h2.2.1 (c.trans h2.1)
    have b := h2.2.2 x h1.2.1 (c.symm.trans h1.1)
    omega
/-- A label is its own label. -/
theorem Lab.self {n : Nat} {E : List (Int × Int)} {l : List Int} (h : Lab n E l) {v : Nat} {x : Int} (hx : l[v]? = some x) : l[x.toNat]? = some x := by
  have h1 := h.lt hx
  have hi : x.toNat < l.length := by rw [h.1]; omega
  rw [List.getElem?_eq_getElem hi]
  have h2 := h.2 v x hx
  have hc : Con E (x.toNat : Int) v := by rw [Int.toNat_of_nonneg h1.1]; exact h2.1.symm
  rw [(h.iff (List.getElem?_eq_getElem hi) hx).2 hc]
section
variable {n : Nat} {E : List (Int × Int)} {L : List Int}
theorem getD_at {l : List Int} {i : Nat} (h : i < l.length) : l[i]? = some (l.getD i 0) := by
  rw [List.getD_eq_getElem?_getD, List.getElem?_eq_getElem h]; rfl
end
theorem h_sl01In (a b c : Int) : g_sl01In (a, b, c) = some (decide (b ≤ a) && decide (a ≤ c), ()) := by
  show f_sl01In BIG _ = _
  rw [e_sl01In]
  cases decide (b ≤ a) <;> rfl
theorem h_iin (a b c : Int) : g_iin (a, b, c) = some (decide (b ≤ a) && decide (a ≤ c), ()) := by
  show f_iin BIG _ = _
  rw [e_iin]
  cases decide (b ≤ a) <;> rfl
abbrev Ed := Int × Int
def insP (own : List Int) (s : Int) (y : Ed) : Bool := (decide (0 ≤ y.1) && decide (y.1 < own.length) && decide (own[y.1.toNat]? = some s)) && (decide (0 ≤ y.2) && decide (y.2 < own.length) && decide (own[y.2.toNat]? = some s))
theorem h_iowns (own : List Int) (h : own.length ≤ 1048576) (v s : Int) : g_iowns (own, v, s) = some (decide (0 ≤ v) && decide (v < own.length) && decide (own[v.toNat]? = some s), ()) := by
  show f_iowns BIG _ = _
  rw [e_iowns, h_iin, Option.bind_some, wr (by omega) (by omega)]
  by_cases h0 : 0 ≤ v
  · by_cases h1 : v < own.length
    · have hi : v.toNat < own.length := by omega
      rw [decide_eq_true h0, decide_eq_true h1, decide_eq_true (by omega)]
      simp only [Bool.and_self, cond_true]
      rw [bnd_ok h0 h1, List.getElem?_eq_getElem hi]
      simp
    · rw [decide_eq_true h0, decide_eq_false h1, decide_eq_false (by omega)]
      rfl
  · rw [decide_eq_false h0]
    rfl
theorem foldl_filter {α : Type} (p : α → Bool) : ∀ (l : List α) (s : List α), l.foldl (fun s y => if p y then s ++ [y] else s) s = s ++ l.filter p
  | [], s => by simp
  | y :: l, s => by
    rw [List.foldl_cons, foldl_filter p l]
    cases h : p y <;> simp [h]
theorem h_iInside (own : List Int) (es : List Ed) (s : Int) (h : own.length ≤ 1048576) (he : es.length ≤ 1048576) : g_iInside (own, es, s) = some (es.filter (insP own s), ()) := by
  have hm : maxLen = 9223372036854775807 := by decide
  show f_iInside BIG _ = _
  rw [e_iInside, foldLoop es (by omega) (fun i (c : List Ed) => c.length ≤ i) (fun c y => if insP own s y then c ++ [y] else c) id (by simp) (fun i c y _ (h : c.length ≤ i) => by show List.length (if _ then _ else _) ≤ _; split <;> (try simp) <;> omega)]
  · rw [foldl_filter]; rfl
  · intro self c i y hy (hc : c.length ≤ i)
    have hi := (List.getElem?_eq_some_iff.1 hy).1
    simp only [show ((i : Int) < (es.length : Int)) from by omega, decide_true, cond_true]
    rw [bnd_nat hi, hy, Option.bind_some, h_iowns _ h, Option.bind_some, h_iowns _ h, wr1 (by omega)]
    unfold insP
    cases decide (0 ≤ y.1) && decide (y.1 < own.length) && decide (own[y.1.toNat]? = some s) <;> cases decide (0 ≤ y.2) && decide (y.2 < own.length) && decide (own[y.2.toNat]? = some s) <;> simp [show c.length + 1 ≤ 4294967296 from by omega]
  · intro self c hc
    simp
theorem h_sInside (own : List Int) (es : List Ed) (s : Int) (h : own.length ≤ 1048576) (he : es.length ≤ 1048576) : g_sInside (own, es, s) = some (es.filter (insP own s), ()) := by
  have hm : maxLen = 9223372036854775807 := by decide
  show f_sInside BIG _ = _
  rw [e_sInside, foldLoop es (by omega) (fun i (c : List Ed) => c.length ≤ i) (fun c y => if insP own s y then c ++ [y] else c) id (by simp) (fun i c y _ (h : c.length ≤ i) => by show List.length (if _ then _ else _) ≤ _; split <;> (try simp) <;> omega)]
  · rw [foldl_filter]; rfl
  · intro self c i y hy (hc : c.length ≤ i)
    have hi := (List.getElem?_eq_some_iff.1 hy).1
    simp only [show ((i : Int) < (es.length : Int)) from by omega, decide_true, cond_true]
    rw [bnd_nat hi, hy, Option.bind_some, h_sl01In, Option.bind_some, h_sl01In, Option.bind_some, wr1 (by omega), wr (by omega) (by omega)]
    unfold insP
    by_cases a1 : 0 ≤ y.1
    · by_cases a2 : y.1 < own.length
      · by_cases b1 : 0 ≤ y.2
        · by_cases b2 : y.2 < own.length
          · have k1 : y.1.toNat < own.length := by omega
            have k2 : y.2.toNat < own.length := by omega
            rw [bnd_ok a1 a2, bnd_ok b1 b2, List.getElem?_eq_getElem k1, List.getElem?_eq_getElem k2]
            by_cases c1 : own[y.1.toNat] = s <;> by_cases c2 : own[y.2.toNat] = s <;> simp [a1, a2, b1, b2, c1, c2, show y.1 ≤ (own.length : Int) - 1 from by omega, show y.2 ≤ (own.length : Int) - 1 from by omega, show c.length + 1 ≤ 4294967296 from by omega]
          · have : ¬ y.2 ≤ (own.length : Int) - 1 := by omega
            simp [a1, a2, b1, b2, this]
        · simp [a1, a2, b1]
      · have : ¬ y.1 ≤ (own.length : Int) - 1 := by omega
        simp [a1, a2, this]
    · simp [a1]
  · intro self c hc
    simp
abbrev Sd := Int × Int × Int × Int × Int × Int
def inB (a b c : Int) : Bool := decide (b ≤ a) && decide (a ≤ c)
theorem inB_t {a b c : Int} : inB a b c = true ↔ b ≤ a ∧ a ≤ c := by simp [inB]
def edB (n : Int) (e : Ed) : Bool := inB n 1 12 && (inB e.1 0 (n - 1) && (inB e.2 0 (n - 1) && decide (e.1 < e.2)))
def lsB (x y : Ed) : Bool := decide (x.1 < y.1) || (decide (x.1 = y.1) && decide (x.2 < y.2))
def eP (n : Int) (es : List Ed) (i : Nat) : Bool := match es[i]? with
  | some y => edB n y && (match i with
    | 0 => true
    | j + 1 => match es[j]? with
      | some x => lsB x y
      | none => false)
  | none => false
def eOk (n : Int) (es : List Ed) : Bool := if ∀ i, i < es.length → eP n es i = true then decide ((es.length : Int) ≤ 66) else false
def lbP (l : List Int) (i : Nat) : Bool := match l[i]? with
  | some y => inB y 0 i && (match l[y.toNat]? with
    | some z => decide (z = y)
    | none => false)
  | none => false
def lbOk (n : Int) (l : List Int) : Bool := if (l.length : Int) = n then (if ∀ i, i < l.length → lbP l i = true then true else false) else false
theorem and255 (n : Int) : bits .and .i64 n 255 = n % 256 := by
  have h255 : (BitVec.ofInt 64 255).toNat = 2 ^ 8 - 1 := by decide
  have key : (BitVec.ofInt 64 n &&& BitVec.ofInt 64 255).toNat = (n % ((2 ^ 64 : Nat) : Int)).toNat % 2 ^ 8 := by
    rw [BitVec.toNat_and, BitVec.toNat_ofInt, h255, Nat.and_two_pow_sub_one_eq_mod]
  show IntKind.i64.wrap ((BitVec.ofInt 64 n &&& BitVec.ofInt 64 255).toNat : Nat) = n % 256
  rw [key, IntKind.wrap_i64]
  omega
abbrev Cur := List Int × Int × Int
def curOk (c : Cur) : Prop := c.1.length ≤ 1048576 ∧ 0 ≤ c.2.1 ∧ c.2.1 ≤ c.1.length
theorem h_sl01Byte (c : Cur) (hc : curOk c) : ∃ r c', g_sl01Byte c = some (r, c') ∧ curOk c' ∧ 0 ≤ r ∧ r ≤ 255 := by
  have e : g_sl01Byte c = f_sl01Byte BIG c := rfl
  obtain ⟨h1, h2, h3⟩ := hc
  rw [e, e_sl01Byte, decide_eq_false (by decide), cond_false, decide_eq_false (by decide), cond_false]
  simp only [and255]
  by_cases h : c.2.1 < c.1.length
  · rw [decide_eq_true h, cond_true, bnd_ok h2 h, List.getElem?_eq_getElem (by omega), Option.bind_some, Option.bind_some]
    refine ⟨_, _, rfl, ⟨h1, ?_, ?_⟩, Int.emod_nonneg _ (by decide), by omega⟩
    · show 0 ≤ IntKind.wrap .i64 (c.2.1 + 1)
      rw [wr (by omega) (by omega)]; omega
    · show IntKind.wrap .i64 (c.2.1 + 1) ≤ _
      rw [wr (by omega) (by omega)]
      show c.2.1 + 1 ≤ (c.1.length : Int)
      omega
  · rw [decide_eq_false h, cond_false, Option.bind_some]
    exact ⟨_, _, rfl, ⟨h1, h2, h3⟩, Int.emod_nonneg _ (by decide), by omega⟩
theorem h_sl01Below (c : Cur) (n : Int) (hc : curOk c) (hn : n ≤ 1000000) : ∃ r c', g_sl01Below (c, n) = some (r, c') ∧ curOk c' ∧ 0 ≤ r ∧ (0 < n → r < n) ∧ (n ≤ 0 → r = 0) := by
  have e : g_sl01Below (c, n) = f_sl01Below BIG (c, n) := rfl
  rw [e, e_sl01Below]
  by_cases h0 : n ≤ 0
  · rw [decide_eq_true h0]; exact ⟨0, c, rfl, hc, by omega, by omega, fun _ => rfl⟩
  · rw [decide_eq_false h0, cond_false]
    obtain ⟨r1, c1, k1, o1, a1, b1⟩ := h_sl01Byte c hc
    by_cases h1 : n ≤ 256
    · rw [decide_eq_true h1, cond_true, k1, Option.bind_some, decide_eq_false (by omega), cond_false]
      refine ⟨_, _, rfl, o1, Int.tmod_nonneg _ a1, fun _ => ?_, by omega⟩
      show Int.tmod r1 n < n
      exact Int.tmod_lt_of_pos _ (by omega)
    · rw [decide_eq_false h1, cond_false, k1, Option.bind_some]
      obtain ⟨r2, c2, k2, o2, a2, b2⟩ := h_sl01Byte c1 o1
      obtain ⟨r3, c3, k3, o3, a3, b3⟩ := h_sl01Byte c2 o2
      obtain ⟨r4, c4, k4, o4, a4, b4⟩ := h_sl01Byte c3 o3
      simp only [k2, k3, k4, Option.bind_some]
      rw [decide_eq_false (by omega), cond_false]
      refine ⟨_, _, rfl, o4, ?_, fun _ => Int.tmod_lt_of_pos _ (by omega), by omega⟩
      refine Int.tmod_nonneg _ ?_
      rw [wr (n := r1 * 16777216) (by omega) (by omega), wr (n := r2 * 65536) (by omega) (by omega), wr (n := r3 * 256) (by omega) (by omega), wr (n := r1 * 16777216 + r2 * 65536) (by omega) (by omega), wr (n := r1 * 16777216 + r2 * 65536 + r3 * 256) (by omega) (by omega), wr (by omega) (by omega)]
      omega
theorem h_sl05Edge (c : Cur) (n : Int) (hc : curOk c) (hn : 2 ≤ n) (hn' : n ≤ 12) : ∃ e c', g_sl05Edge (c, n) = some (e, c') ∧ curOk c' ∧ edB n e = true := by
  have e : g_sl05Edge (c, n) = f_sl05Edge BIG (c, n) := rfl
  rw [e, e_sl05Edge]
  obtain ⟨r0, c0, k0, o0, a0, b0, _⟩ := h_sl01Below c n hc (by omega)
  obtain ⟨r1, c1, k1, o1, a1, b1, _⟩ := h_sl01Below c0 n o0 (by omega)
  have b0 := b0 (by omega)
  have b1 := b1 (by omega)
  simp only [k0, k1, Option.bind_some]
  have key : ∀ x2 : Int, 0 ≤ x2 → x2 < n → x2 ≠ r0 → ∃ e c', (bif decide (x2 < r0) then some ((x2, r0), c1) else some ((r0, x2), c1)) = some (e, c') ∧ curOk c' ∧ edB n e = true := by
    intro x2 p q hne
    by_cases h : x2 < r0
    · rw [decide_eq_true h]
      refine ⟨_, _, rfl, o1, ?_⟩
      simp only [edB, Bool.and_eq_true, inB_t, decide_eq_true_eq]
      omega
    · rw [decide_eq_false h]
      refine ⟨_, _, rfl, o1, ?_⟩
      simp only [edB, Bool.and_eq_true, inB_t, decide_eq_true_eq]
      omega
  by_cases h : r0 = r1
  · rw [decide_eq_true h, cond_true, decide_eq_false (by omega), cond_false, Option.bind_some, wr (by omega) (by omega)]
    have hm : Int.tmod (r0 + 1) n = if r0 + 1 = n then 0 else r0 + 1 := by
      rw [Int.tmod_eq_emod_of_nonneg (by omega)]
      split
      · rename_i h; rw [h]; exact Int.emod_self
      · exact Int.emod_eq_of_lt (by omega) (by omega)
    rw [hm]
    split
    · exact key 0 (by omega) (by omega) (by omega)
    · exact key _ (by omega) (by omega) (by omega)
  · rw [decide_eq_false h, cond_false, Option.bind_some]
    exact key r1 a1 b1 (fun hh => h hh.symm)
theorem h_sl01New (a : List Int) (ha : a.length ≤ 1048576) : ∃ c, g_sl01New a = some (c, ()) ∧ curOk c := by
  have hm : maxLen = 9223372036854775807 := by decide
  have e : g_sl01New a = f_sl01New BIG a := rfl
  rw [e, e_sl01New]
  have := loop_rel (F := fun (self1 : Int × Int → Option (Int)) (x0 : Int × Int) =>
    Option.bind (bif decide (x0.2 < (a.length : Int)) then
      some (decide (x0.2 < (4000 : Int)))
     else some false : Option (Bool)) fun x2 =>
    bif x2 then
     bnd a.length x0.2 fun n3 =>
     Option.bind a[n3]? fun y4 =>
     self1 (bits .and .i64 (IntKind.wrap .i64 ((IntKind.wrap .i64 ((IntKind.wrap .i64 (x0.1 * (131 : Int))) + (IntKind.wrap .i64 (y4)))) + (7 : Int))) (1073741823 : Int), IntKind.wrap .i64 (x0.2 + (1 : Int)))
    else some x0.1) (fun x => ∃ i : Nat, x.2 = i ∧ i ≤ a.length) (fun x => a.length - x.2.toNat) (fun _ _ => True) (fun self x ⟨i, h1, h2⟩ hs => ?_) (n := BIG) (x := (IntKind.wrap .i64 ((13501 : Int) + (a.length : Int)), 0)) (by simp [BIG]; omega) ⟨0, rfl, by omega⟩
  · obtain ⟨b, hb, _⟩ := this
    rw [hb]
    exact ⟨_, rfl, ha, Int.le_refl _, by simp⟩
  · obtain ⟨z, j⟩ := x
    simp only at h1
    subst h1
    by_cases h : i < a.length
    · by_cases h' : (i : Int) < 4000
      · simp only [show ((i : Int) < (a.length : Int)) from by omega, h', decide_true, cond_true, Option.bind_some]
        rw [bnd_nat h, List.getElem?_eq_getElem h, Option.bind_some, wr1 (by omega)]
        exact hs _ ⟨i + 1, rfl, h⟩ (by simp; omega)
      · simp only [show ((i : Int) < (a.length : Int)) from by omega, h', decide_true, decide_false, cond_true, cond_false, Option.bind_some]
        exact ⟨_, rfl, trivial⟩
    · simp only [show ¬ ((i : Int) < (a.length : Int)) from by omega, decide_false, cond_false, Option.bind_some]
      exact ⟨_, rfl, trivial⟩
theorem h_lsameEdges (a b : List Ed) (ha : a.length ≤ maxLen) : g_lsameEdges (a, b) = some (decide (a = b), ()) := by
  show f_lsameEdges BIG _ = _
  rw [e_lsameEdges]
  by_cases hl : a.length = b.length
  · rw [decide_eq_true (by omega), Bool.not_true, cond_false, eqLoop a b ha hl false]
    · by_cases h : a = b <;> simp [h]
    · intro self i x y hx hy
      have hi := (List.getElem?_eq_some_iff.1 hx).1
      simp only [show ((i : Int) < (a.length : Int)) from by omega, decide_true, cond_true]
      rw [bnd_nat hi, hx, Option.bind_some, bnd_nat (by omega), hy, Option.bind_some, wr1 (by omega)]
      obtain ⟨x1, x2⟩ := x
      obtain ⟨y1, y2⟩ := y
      by_cases h1 : x1 = y1 <;> by_cases h2 : x2 = y2 <;> simp [h1, h2]
    · intro self
      simp
  · rw [decide_eq_false (by omega), Bool.not_false, cond_true, decide_eq_false (fun h => hl (by rw [h]))]
theorem h_lbig (a : List Int) : g_lbig a = some (decide ((1048576 : Int) < (a.length : Int)), ()) := e_lbig BIG a
theorem h_sl01Once (c : Cur) (n : Int) (hc : curOk c) (hn : n ≤ 1000000) : ∃ b c', g_sl01Once (c, n) = some (b, c') ∧ curOk c' := by
  have e : g_sl01Once (c, n) = f_sl01Once BIG (c, n) := rfl
  obtain ⟨r, c', k, o, _⟩ := h_sl01Below c n hc hn
  rw [e, e_sl01Once, k]
  exact ⟨_, _, rfl, o⟩
theorem h_sl01PickInt (c : Cur) (l : List Int) (hc : curOk c) (h0 : 0 < l.length) (hl : l.length ≤ 1000000) : ∃ b c', g_sl01PickInt (c, l) = some (b, c') ∧ curOk c' := by
  have e : g_sl01PickInt (c, l) = f_sl01PickInt BIG (c, l) := rfl
  obtain ⟨r, c', k, o, a, b, _⟩ := h_sl01Below c l.length hc (by omega)
  have b := b (by omega)
  rw [e, e_sl01PickInt, k, Option.bind_some, bnd_ok a b, List.getElem?_eq_getElem (by omega)]
  exact ⟨_, _, rfl, o⟩
theorem h_sl05AnyEdge (c : Cur) (hc : curOk c) : ∃ e c', g_sl05AnyEdge (c, (0, [])) = some (e, c') ∧ curOk c' := by
  have e : g_sl05AnyEdge (c, (0, [])) = f_sl05AnyEdge BIG (c, (0, [])) := rfl
  rw [e, e_sl05AnyEdge]
  simp only [List.length_nil, Int.natCast_zero, Int.lt_irrefl, decide_false, cond_false, Option.bind_some]
  obtain ⟨b, c1, k1, o1⟩ := h_sl01Once c 12 hc (by omega)
  rw [k1, Option.bind_some]
  cases b with
  | true =>
    obtain ⟨r2, c2, k2, o2⟩ := h_sl01PickInt c1 [(-1 : Int), (0 : Int), (5 : Int), (11 : Int), (12 : Int)] o1 (by decide) (by decide)
    obtain ⟨r3, c3, k3, o3⟩ := h_sl01PickInt c2 [(0 : Int), (5 : Int), (11 : Int), (12 : Int)] o2 (by decide) (by decide)
    simp only [cond_true, k2, k3, Option.bind_some]
    exact ⟨_, _, rfl, o3⟩
  | false =>
    obtain ⟨e, c2, k2, o2, _⟩ := h_sl05Edge c1 6 o1 (by omega) (by omega)
    simp only [cond_false, k2, Option.bind_some]
    exact ⟨_, _, rfl, o2⟩
theorem h_sl01Place (c : Cur) (hc : curOk c) : ∃ r c', g_sl01Place (c, 3) = some (r, c') ∧ curOk c' := by
  have e : g_sl01Place (c, 3) = f_sl01Place BIG (c, 3) := rfl
  rw [e, e_sl01Place]
  obtain ⟨b, c1, k1, o1⟩ := h_sl01Once c 15 hc (by omega)
  rw [k1, Option.bind_some]
  cases b with
  | true =>
    obtain ⟨r2, c2, k2, o2⟩ := h_sl01PickInt c1 [(-1 : Int), 3, IntKind.wrap .i64 (3 + (1 : Int)), (9223372036854775807 : Int), (-9223372036854775808 : Int)] o1 (by simp) (by simp)
    simp only [cond_true, k2, Option.bind_some]
    exact ⟨_, _, rfl, o2⟩
  | false =>
    obtain ⟨r2, c2, k2, o2, _⟩ := h_sl01Below c1 3 o1 (by omega)
    simp only [cond_false, k2, Option.bind_some]
    exact ⟨_, _, rfl, o2⟩
theorem h_sl09N (c : Cur) (hc : curOk c) : ∃ n c', g_sl09N c = some (n, c') ∧ curOk c' ∧ 2 ≤ n ∧ n ≤ 12 := by
  have e : g_sl09N c = f_sl09N BIG c := rfl
  obtain ⟨r, c', k, o, a, b, _⟩ := h_sl01Below c 11 hc (by omega)
  have b := b (by omega)
  rw [e, e_sl09N, k, Option.bind_some, wr (by omega) (by omega)]
  exact ⟨_, _, rfl, o, by omega, by omega⟩
theorem h_sDrawInside (a : List Int) (ha : a.length ≤ 1048576) : ∃ own es s, g_sDrawInside a = some ((own, es, s), ()) ∧ own.length ≤ 1000 ∧ es.length ≤ 1000 := by
  have hm : maxLen = 9223372036854775807 := by decide
  have e : g_sDrawInside a = f_sDrawInside BIG a := rfl
  obtain ⟨c0, k0, o0⟩ := h_sl01New a ha
  obtain ⟨n, c1, k1, o1, n1, n2⟩ := h_sl09N c0 o0
  rw [e, e_sDrawInside, k0]
  simp only [Option.bind_some, k1]
  have L1 := loop_rel (F := fun (self3 : (List (Int)) × (List (Int) × Int × Int) × Int → Option ((List (Int)) × (List (Int) × Int × Int))) (x2 : (List (Int)) × (List (Int) × Int × Int) × Int) =>
    bif decide (x2.2.2 < n) then
     Option.bind (g_sl01Below (x2.2.1, (2 : Int))) fun r4 =>
     bif decide (x2.1.length + ([IntKind.wrap .i64 ((1 : Int) + r4.1)]).length ≤ 4294967296) then
      self3 (x2.1 ++ ([IntKind.wrap .i64 ((1 : Int) + r4.1)]), r4.2, IntKind.wrap .i64 (x2.2.2 + (1 : Int)))
     else none
    else some (x2.1, x2.2.1)) (fun x => ∃ i : Nat, x.2.2 = i ∧ (i : Int) ≤ n ∧ x.1.length ≤ i ∧ curOk x.2.1) (fun x => 12 - x.2.2.toNat) (fun _ b => b.1.length ≤ 12 ∧ curOk b.2) (fun self x hx hs => ?_) (n := BIG) (x := ([], c1, 0)) (by simp [BIG]) ⟨0, rfl, by omega, by simp, o1⟩
  · obtain ⟨⟨own, c2⟩, k2, hown, o2⟩ := L1
    rw [k2]
    simp only [Option.bind_some]
    simp only at hown o2
    have L2 := loop_rel (F := fun (self7 : (List (Int) × Int × Int) × (List (Int × Int)) × Int → Option ((List (Int) × Int × Int) × (List (Int × Int)))) (x6 : (List (Int) × Int × Int) × (List (Int × Int)) × Int) =>
      Option.bind (g_sl01Below (x6.1, (8 : Int))) fun r8 =>
      bif decide (x6.2.2 < r8.1) then
       Option.bind (g_sl05Edge (r8.2, n)) fun r9 =>
       bif decide (x6.2.1.length + [r9.1].length ≤ 4294967296) then
        self7 (r9.2, x6.2.1 ++ [r9.1], IntKind.wrap .i64 (x6.2.2 + (1 : Int)))
       else none
      else some (r8.2, x6.2.1)) (fun x => ∃ i : Nat, x.2.2 = i ∧ i ≤ 8 ∧ x.2.1.length ≤ i ∧ curOk x.1) (fun x => 8 - x.2.2.toNat) (fun _ b => curOk b.1 ∧ b.2.length ≤ 8) (fun self x hx hs => ?_) (n := BIG) (x := (c2, [], 0)) (by simp [BIG]) ⟨0, rfl, by omega, by simp, o2⟩
    · obtain ⟨⟨c3, es⟩, k3, o3, hes⟩ := L2
      rw [k3]
      simp only [Option.bind_some]
      simp only at o3 hes
      obtain ⟨b, c4, k4, o4⟩ := h_sl01Once c3 10 o3 (by omega)
      rw [k4, Option.bind_some]
      cases b with
      | true =>
        obtain ⟨ed, c5, k5, o5⟩ := h_sl05AnyEdge c4 o4
        simp only [cond_true, k5, Option.bind_some]
        rw [decide_eq_true (by simp; omega), cond_true, Option.bind_some]
        obtain ⟨s, c6, k6, o6⟩ := h_sl01Place c5 o5
        simp only [k6, Option.bind_some]
        exact ⟨_, _, _, rfl, by omega, by simp; omega⟩
      | false =>
        simp only [cond_false, Option.bind_some]
        obtain ⟨s, c6, k6, o6⟩ := h_sl01Place c4 o4
        simp only [k6, Option.bind_some]
        exact ⟨_, _, _, rfl, by omega, by omega⟩
    · obtain ⟨cu, es, iz⟩ := x
      obtain ⟨i, rfl, hi, hl, hcu⟩ := hx
      simp only at hl hcu
      obtain ⟨r8, c8, k8, o8, a8, b8, _⟩ := h_sl01Below cu 8 hcu (by omega)
      have b8 := b8 (by omega)
      simp only [k8, Option.bind_some]
      by_cases h : (i : Int) < r8
      · rw [decide_eq_true h, cond_true]
        obtain ⟨ed, c9, k9, o9, _⟩ := h_sl05Edge c8 n o8 n1 n2
        simp only [k9, Option.bind_some]
        rw [decide_eq_true (by simp; omega), cond_true, wr1 (by omega)]
        exact hs _ ⟨i + 1, rfl, by omega, by simp; omega, o9⟩ (by simp; omega)
      · rw [decide_eq_false h, cond_false]
        exact ⟨_, rfl, o8, by show es.length ≤ 8; omega⟩
  · obtain ⟨own, cu, iz⟩ := x
    obtain ⟨i, rfl, hi, hl, hcu⟩ := hx
    simp only at hl hcu
    by_cases h : (i : Int) < n
    · rw [decide_eq_true h, cond_true]
      obtain ⟨r4, c4, k4, o4, _⟩ := h_sl01Below cu 2 hcu (by omega)
      simp only [k4, Option.bind_some]
      rw [decide_eq_true (by simp; omega), cond_true, wr1 (by omega)]
      exact hs _ ⟨i + 1, rfl, by omega, by simp; omega, o4⟩ (by simp; omega)
    · rw [decide_eq_false h, cond_false]
      exact ⟨_, rfl, by show own.length ≤ 12; omega, hcu⟩
theorem law_lFnInside (a : List Int) : g_lFnInside a = some (true, ()) := by
  have hm : maxLen = 9223372036854775807 := by decide
  show f_lFnInside BIG _ = _
  rw [e_lFnInside, h_lbig, Option.bind_some]
  by_cases ha : a.length ≤ 1048576
  · rw [decide_eq_false (by omega), cond_false]
    obtain ⟨own, es, s, k, l1, l2⟩ := h_sDrawInside a ha
    simp only [k, Option.bind_some]
    rw [h_iInside own es s (by omega) (by omega), h_sInside own es s (by omega) (by omega)]
    simp only [Option.bind_some]
    have hc : ∀ (l : List Ed) (c : Int), l.foldl (fun (c : Int) y => if insP own s y then c + 1 else c) c = c + ((l.filter (insP own s)).length : Int) := by
      intro l
      induction l with
      | nil => intro c; simp
      | cons y l ih =>
        intro c
        rw [List.foldl_cons, ih]
        cases h : insP own s y <;> simp [h]
        omega
    rw [foldLoop es (by omega) (fun i (c : Int) => 0 ≤ c ∧ c ≤ i) (fun (c : Int) y => if insP own s y then c + 1 else c) id ⟨by omega, by omega⟩ (fun i c y _ h => by
      have h1 := h.1
      have h2 := h.2
      show 0 ≤ (if insP own s y = true then c + 1 else c) ∧ (if insP own s y = true then c + 1 else c) ≤ ((i + 1 : Nat) : Int)
      split <;> constructor <;> omega)]
    · simp only [id, hc, Option.bind_some, Int.zero_add]
      have hf : (es.filter (insP own s)).length ≤ 1000 := Nat.le_trans (List.length_filter_le _ _) l2
      rw [h_lsameEdges _ _ (by omega)]
      simp only [Option.bind_some, decide_true, cond_true]
      by_cases ho : (0 : Int) < (own.length : Int)
      · have ho' : 0 < own.length := by omega
        simp [ho']
      · have h0 : own = [] := List.length_eq_zero_iff.1 (by omega)
        subst h0
        have : es.filter (insP [] s) = [] := by
          rw [List.filter_eq_nil_iff]
          intro y _
          simp only [insP, List.length_nil, Bool.and_eq_true, decide_eq_true_eq, not_and]
          intro h
          omega
        rw [this]
        simp
    · intro self c i y hy hc
      have hi := (List.getElem?_eq_some_iff.1 hy).1
      have hc1 := hc.1
      have hc2 := hc.2
      simp only [show ((i : Int) < (es.length : Int)) from by omega, decide_true, cond_true]
      rw [bnd_nat hi, hy, Option.bind_some, wr1 (by omega), wr (n := c + 1) (by omega) (by omega)]
      unfold insP
      by_cases a1 : 0 ≤ y.1
      · by_cases b1 : 0 ≤ y.2
        · by_cases a2 : y.1 < own.length
          · by_cases b2 : y.2 < own.length
            · have k1 : y.1.toNat < own.length := by omega
              have k2 : y.2.toNat < own.length := by omega
              rw [bnd_ok a1 a2, bnd_ok b1 b2, List.getElem?_eq_getElem k1, List.getElem?_eq_getElem k2]
              by_cases c1 : own[y.1.toNat] = s <;> by_cases c2 : own[y.2.toNat] = s <;> simp [a1, a2, b1, b2, c1, c2]
            · simp [a1, a2, b1, b2]
          · simp [a1, a2, b1]
        · simp [a1, b1]
      · simp [a1]
    · intro self c hc
      simp
  · rw [decide_eq_true (by omega)]; rfl
/-- A byte of a number. -/
def by8 (n : Int) : UInt8 := UInt8.ofNat (n % 256).toNat
def vF : Nat → Nat → List UInt8
  | 0, v => [by8 (v : Int)]
  | k + 1, v => if v ≤ 127 then [by8 (v : Int)] else by8 ((v % 128 + 128 : Nat) : Int) :: vF k (v / 128)
def vB (v : Nat) : List UInt8 := vF 9 v
/-- A number read off bytes, of which it takes so many at most; and how many it took. -/
def dec : Nat → List UInt8 → Option (Nat × Nat)
  | 0, _ => none
  | _ + 1, [] => none
  | k + 1, b :: l => if b.toNat < 128 then some (b.toNat, 1) else (dec k l).map fun r => (b.toNat - 128 + 128 * r.1, r.2 + 1)
/-- What is read there, when it is a number in its own bytes. -/
def rdV (l : List UInt8) : Option (Nat × Nat) := match dec 5 l with
  | some (v, m) => if v ≤ 1000000000 ∧ vB v = l.take m then some (v, m) else none
  | none => none
abbrev St := Nat × Bool
def nm (T : List UInt8) (s : St) : Int × St :=
  if s.2 then (0, (s.1, true)) else match rdV (T.drop s.1) with
  | some (v, m) => ((v : Int), (s.1 + m, false))
  | none => (0, (s.1, true))
def on (T : List UInt8) (s : St) : Int × St :=
  if s.2 then (0, (s.1, true)) else match T[s.1]? with
  | some b => ((b.toNat : Int), (s.1 + 1, false))
  | none => (0, (s.1, true))
def edF (T : List UInt8) : Nat → St → List Ed → St × List Ed
  | 0, s, out => (s, out)
  | k + 1, s, out => if s.2 then (s, out) else edF T k (on T (on T s).2).2 (out ++ [((on T s).1, (on T (on T s).2).1)])
def q0 (T : List UInt8) : Int × St := nm T (0, false)
def q1 (T : List UInt8) : Int × St := on T (q0 T).2
def q2 (T : List UInt8) : Int × St := nm T (q1 T).2
def q3 (T : List UInt8) (K : Nat) : St × List Ed := edF T K (nm T (q2 T).2).2 []
def lbF (T : List UInt8) : Nat → St → List Int → St × List Int
  | 0, s, out => (s, out)
  | k + 1, s, out => lbF T k (on T s).2 (out ++ [(on T s).1])
def q4 (T : List UInt8) (K : Nat) : St × List Ed := edF T K (nm T (q1 T).2).2 []
def q5 (T : List UInt8) (K N : Nat) : St × List Int := lbF T N (q4 T K).1 []
/-- A head that is right, and what is known of it. -/
structure HdF (x0 : Int) (x1 : List Int) (x2 : List Ed) (x3 : List (List Int)) (x4 : List Int) (x14 : List Sd) : Prop where
  n : 1 ≤ x0 ∧ x0 ≤ 12
  k : 1 ≤ x3.length ∧ x3.length ≤ 3
  nums : x4.length = x3.length
  own : (x1.length : Int) = x0
  cuts : eOk x0 x2 = true
  said : x14.length ≤ 80
  o1 : ∀ i, i < x1.length → 1 ≤ x1.getD i 0 ∧ x1.getD i 0 ≤ x3.length
  o3 : ∀ i, i < x3.length → lbOk x0 (x3.getD i []) = true ∧ 0 ≤ x4.getD i 0 ∧ x4.getD i 0 ≤ 99991
section
variable {x0 : Int} {x1 : List Int} {x2 : List Ed} {x3 : List (List Int)} {x4 : List Int} {x14 : List Sd}
theorem HdF.at (h : HdF x0 x1 x2 x3 x4 x14) {v : Int} (h1 : 0 ≤ v) (h2 : v ≤ x0 - 1) : v < x1.length ∧ x1[v.toNat]? = some (x1.getD v.toNat 0) ∧ 1 ≤ x1.getD v.toNat 0 ∧ x1.getD v.toNat 0 ≤ x3.length := by
  have ho := h.own
  have := h.o1 v.toNat (by omega)
  exact ⟨by omega, getD_at (by omega), this.1, this.2⟩
end
end Go.Fw
