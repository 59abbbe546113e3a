/- What the given functions come to. No conditions. -/
import Derived.Test.YtojipknoidbbgaaX0
import Derived.IntWalk
set_option linter.unusedVariables false
set_option linter.unusedSimpArgs false
namespace Go.Fw

theorem loop_rel {X B : Type} {F : (X → Option B) → X → Option B} (I : X → Prop) (μ : X → Nat) (Q : X → B → Prop)
    (h : ∀ self x, I x → (∀ y, I y → μ y < μ x → ∃ b, self y = some b ∧ Q y b) → ∃ b, F self x = some b ∧ Q x b) : ∀ {n : Nat} {x : X}, μ x < n → I x → ∃ b, loopT n F x = some b ∧ Q x b
  | 0, _, hn, _ => absurd hn (Nat.not_lt_zero _)
  | n + 1, x, hn, hi => h (it F n) x hi fun _ hy hm => loop_rel I μ Q h (n := n) (by omega) hy
theorem loop_eq {X B : Type} {F : (X → Option B) → X → Option B} (I : X → Prop) (μ : X → Nat) (R : X → B)
    (h : ∀ self x, I x → (∀ y, I y → μ y < μ x → self y = some (R y)) → F self x = some (R x)) {n : Nat} {x : X} (hn : μ x < n) (hi : I x) : loopT n F x = some (R x) := by
  obtain ⟨b, h1, h2⟩ := loop_rel (F := F) I μ (fun x b => b = R x) (fun self x hx hs => ⟨_, h self x hx fun y hy hm => by obtain ⟨b, h1, h2⟩ := hs y hy hm; rw [h1, h2], rfl⟩) hn hi
  rw [h1, h2]
theorem wr {n : Int} (h : -9223372036854775808 ≤ n) (h' : n ≤ 9223372036854775807) : IntKind.wrap .i64 n = n := by
  rw [IntKind.wrap_i64]; omega
theorem wr1 {i : Nat} (h : i < maxLen) : IntKind.wrap .i64 ((i : Int) + 1) = ((i + 1 : Nat) : Int) := by
  have : maxLen = 9223372036854775807 := by decide
  rw [wr (by omega) (by omega)]; rfl
theorem bnd_ok {B : Type} {len : Nat} {i : Int} {k : Nat → Option B} (h : 0 ≤ i) (h' : i < len) : bnd len i k = k i.toNat := by
  unfold bnd
  rw [if_pos ⟨h, by omega⟩]
theorem bnd_nat {B : Type} {len : Nat} {i : Nat} {k : Nat → Option B} (h' : i < len) : bnd len (i : Int) k = k i := by
  rw [bnd_ok (Int.natCast_nonneg i) (by omega)]
  simp
/-- A loop that goes through a row, and is left at the first place where it is told so. -/
theorem allLoop {α B : Type} (a : List α) (hl : a.length < 18446744073709551616) {F : (Int → Option (Unit ⊕ B)) → Int → Option (Unit ⊕ B)} (p : Nat → Bool) (b : B)
    (hF : ∀ self (i : Nat) y, a[i]? = some y → F self (i : Int) = if p i then self ((i + 1 : Nat) : Int) else some (.inr b))
    (hE : ∀ self, F self (a.length : Int) = some (.inl ())) : loopT BIG F 0 = some (if ∀ i, i < a.length → p i = true then .inl () else .inr b) := by
  have hh := loop_rel (F := F) (fun x => ∃ i : Nat, x = i ∧ i ≤ a.length) (fun x => a.length - x.toNat) (fun x r => ((∀ i : Nat, x ≤ (i : Int) → i < a.length → p i = true) ∧ r = .inl ()) ∨ ((∃ i : Nat, i < a.length ∧ p i = false) ∧ r = .inr b)) (fun self x ⟨i, h1, h2⟩ hs => ?_) (n := BIG) (x := 0) (by simp; exact hl) ⟨0, rfl, by simp⟩
  · obtain ⟨r, hr, hq⟩ := hh
    rw [hr]
    congr 1
    rcases hq with ⟨h1, rfl⟩ | ⟨⟨i, h1, h2⟩, rfl⟩
    · rw [if_pos fun i hi => h1 i (by omega) hi]
    · rw [if_neg]
      intro h
      rw [h i h1] at h2; cases h2
  · subst h1
    by_cases hi : i < a.length
    · rw [hF self i a[i] (List.getElem?_eq_getElem hi)]
      cases hp : p i with
      | true =>
        rw [if_pos rfl]
        obtain ⟨r, hr, hq⟩ := hs _ ⟨i + 1, rfl, hi⟩ (by simp; omega)
        refine ⟨r, hr, ?_⟩
        rcases hq with ⟨h1, rfl⟩ | h1
        · refine .inl ⟨fun k hk hk' => ?_, rfl⟩
          by_cases h : k = i
          · subst h; exact hp
          · exact h1 k (by omega) hk'
        · exact .inr h1
      | false => exact ⟨_, rfl, .inr ⟨⟨i, hi, hp⟩, rfl⟩⟩
    · have : i = a.length := by omega
      subst this
      exact ⟨_, hE self, .inl ⟨fun k hk hk' => by omega, rfl⟩⟩
theorem maxLen_lt : maxLen < 18446744073709551616 := by decide
/-- Two rows that are looked at side by side. -/
theorem eqLoop {α B : Type} [DecidableEq α] (a b : List α) (hl : a.length ≤ maxLen) (hab : a.length = b.length) {F : (Int → Option (Unit ⊕ B)) → Int → Option (Unit ⊕ B)} (r : B)
    (hF : ∀ self (i : Nat) x y, a[i]? = some x → b[i]? = some y → F self (i : Int) = if x = y then self ((i + 1 : Nat) : Int) else some (.inr r))
    (hE : ∀ self, F self (a.length : Int) = some (.inl ())) : loopT BIG F 0 = some (if a = b then .inl () else .inr r) := by
  rw [allLoop a (Nat.lt_of_le_of_lt hl maxLen_lt) (fun i => decide (a[i]? = b[i]?)) r (fun self i y hy => ?_) hE]
  · congr 1
    by_cases h : a = b
    · subst h; simp
    · rw [if_neg h, if_neg]
      intro h'
      apply h
      apply List.ext_getElem? fun i => ?_
      by_cases hi : i < a.length
      · simpa using h' i hi
      · rw [List.getElem?_eq_none (by omega), List.getElem?_eq_none (by omega)]
  · have hi := (List.getElem?_eq_some_iff.1 hy).1
    have hb : b[i]? = some (b[i]'(by omega)) := List.getElem?_eq_getElem (by omega)
    rw [hF self i y _ hy hb, hy, hb]
    simp
/-- A loop that goes through a row and keeps an account. -/
theorem foldLoop {α S B : Type} (a : List α) (hl : a.length < 18446744073709551616) {F : (S × Int → Option B) → S × Int → Option B} (I : Nat → S → Prop) (st : S → α → S) (R : S → B) {s0 : S} (h0 : I 0 s0)
    (hI : ∀ i s y, a[i]? = some y → I i s → I (i + 1) (st s y)) (hF : ∀ self s (i : Nat) y, a[i]? = some y → I i s → F self (s, (i : Int)) = self (st s y, ((i + 1 : Nat) : Int)))
    (hE : ∀ self s, I a.length s → F self (s, (a.length : Int)) = some (R s)) : loopT BIG F (s0, 0) = some (R (a.foldl st s0)) := by
  have := loop_eq (F := F) (fun x => ∃ i : Nat, x.2 = i ∧ i ≤ a.length ∧ I i x.1) (fun x => a.length - x.2.toNat) (fun x => R ((a.drop x.2.toNat).foldl st x.1)) (fun self x ⟨i, h1, h2, h3⟩ hs => ?_) (n := BIG) (x := (s0, 0)) (by simp; exact hl) ⟨0, rfl, by simp, h0⟩
  · simpa using this
  · obtain ⟨s, j⟩ := x
    simp only at h1 h2 h3
    subst h1
    by_cases hi : i < a.length
    · have hy := List.getElem?_eq_getElem hi
      rw [hF self s i a[i] hy h3, hs _ ⟨i + 1, rfl, hi, hI _ _ _ hy h3⟩ (by simp; omega)]
      simp only [Int.toNat_natCast]
      rw [List.drop_eq_getElem_cons hi, List.foldl_cons]
    · have : i = a.length := by omega
      subst this
      rw [hE self s h3]
      simp
/-- Two vertices hang together by edges. -/
inductive Con (E : List (Int × Int)) : Int → Int → Prop
  | refl (v : Int) : Con E v v
  | fwd {u v w : Int} : Con E u v → (v, w) ∈ E → Con E u w
  | bwd {u v w : Int} : Con E u v → (w, v) ∈ E → Con E u w
theorem Con.trans {E : List (Int × Int)} {u v w : Int} (h : Con E u v) (h' : Con E v w) : Con E u w := by
  induction h' with
  | refl => exact h
  | fwd _ he ih => exact .fwd ih he
  | bwd _ he ih => exact .bwd ih he
theorem Con.symm {E : List (Int × Int)} {u v : Int} (h : Con E u v) : Con E v u := by
  induction h with
  | refl => exact .refl _
  | fwd _ he ih => exact Con.trans (.bwd (.refl _) he) ih
  | bwd _ he ih => exact Con.trans (.fwd (.refl _) he) ih
theorem Con.mono {E E' : List (Int × Int)} (hE : ∀ e, e ∈ E → e ∈ E') {u v : Int} (h : Con E u v) : Con E' u v := by
  induction h with
  | refl => exact .refl _
  | fwd _ he ih => exact .fwd ih (hE _ he)
  | bwd _ he ih => exact .bwd ih (hE _ he)
theorem Con.of {E : List (Int × Int)} {u v : Int} (h : (u, v) ∈ E) : Con E u v := .fwd (.refl _) h
theorem Con.nil {u v : Int} (h : Con [] u v) : u = v := by
  induction h with
  | refl => rfl
  | fwd _ he _ => cases he
  | bwd _ he _ => cases he
/-- Edges of so many vertices. -/
def EIn (n : Nat) (E : List (Int × Int)) : Prop := ∀ e, e ∈ E → 0 ≤ e.1 ∧ e.1 < n ∧ 0 ≤ e.2 ∧ e.2 < n
theorem Con.range {n : Nat} {E : List (Int × Int)} (hE : EIn n E) {u v : Int} (h : Con E u v) (hu : 0 ≤ u ∧ u < n) : 0 ≤ v ∧ v < n := by
  induction h with
  | refl => exact hu
  | fwd _ he _ => exact ⟨(hE _ he).2.2.1, (hE _ he).2.2.2⟩
  | bwd _ he _ => exact ⟨(hE _ he).1, (hE _ he).2.1⟩
/-- Labels: to each vertex the least one that it hangs together with. -/
def Lab (n : Nat) (E : List (Int × Int)) (l : List Int) : Prop :=
  l.length = n ∧ ∀ (v : Nat) (x : Int), l[v]? = some x → Con E v x ∧ 0 ≤ x ∧ ∀ u : Int, 0 ≤ u → Con E v u → x ≤ u
theorem Lab.le {n : Nat} {E : List (Int × Int)} {l : List Int} (h : Lab n E l) {v : Nat} {x : Int} (hx : l[v]? = some x) : x ≤ v :=
  (h.2 v x hx).2.2 v (Int.natCast_nonneg v) (.refl _)
theorem Lab.lt {n : Nat} {E : List (Int × Int)} {l : List Int} (h : Lab n E l) {v : Nat} {x : Int} (hx : l[v]? = some x) : 0 ≤ x ∧ x < n := by
  have h1 := h.le hx
  have h2 := (List.getElem?_eq_some_iff.1 hx).1
  have h3 := (h.2 v x hx).2.1
  have h4 := h.1
  omega
theorem Lab.iff {n : Nat} {E : List (Int × Int)} {l : List Int} (h : Lab n E l) {u v : Nat} {x y : Int} (hx : l[u]? = some x) (hy : l[v]? = some y) : x = y ↔ Con E u v := by
  have h1 := h.2 u x hx
  have h2 := h.2 v y hy
  constructor
  · intro e
    subst e
    exact h1.1.trans h2.1.symm
  · intro c
    have a := h1.2.2 y h2.2.1 (c.trans h2.1)
    have b := h2.2.2 x h1.2.1 (c.symm.trans h1.1)
    omega
/-- A label is its own label. -/
theorem Lab.self {n : Nat} {E : List (Int × Int)} {l : List Int} (h : Lab n E l) {v : Nat} {x : Int} (hx : l[v]? = some x) : l[x.toNat]? = some x := by
  have h1 := h.lt hx
  have hi : x.toNat < l.length := by rw [h.1]; omega
  rw [List.getElem?_eq_getElem hi]
  have h2 := h.2 v x hx
  have hc : Con E (x.toNat : Int) v := by rw [Int.toNat_of_nonneg h1.1]; exact h2.1.symm
  rw [(h.iff (List.getElem?_eq_getElem hi) hx).2 hc]
/-- Labels without edges. -/
def lab0 (n : Nat) : List Int := (List.range n).map fun (i : Nat) => (i : Int)
theorem lab0_get {n v : Nat} {x : Int} (h : (lab0 n)[v]? = some x) : v < n ∧ x = v := by
  have hi := (List.getElem?_eq_some_iff.1 h).1
  simp only [lab0, List.length_map, List.length_range] at hi
  simp only [lab0, List.getElem?_map, List.getElem?_range hi, Option.map_some, Option.some.injEq] at h
  exact ⟨hi, h.symm⟩
theorem lab0_len (n : Nat) : (lab0 n).length = n := by simp [lab0]
theorem Lab.zero (n : Nat) : Lab n [] (lab0 n) := by
  refine ⟨lab0_len n, fun v x h => ?_⟩
  obtain ⟨_, rfl⟩ := lab0_get h
  exact ⟨.refl _, Int.natCast_nonneg v, fun u _ h => by rw [h.nil]; exact Int.le_refl _⟩
section
variable {n : Nat} {E : List (Int × Int)} {L : List Int}
/-- On the way down to the labels. -/
def Dn (n : Nat) (E : List (Int × Int)) (l : List Int) : Prop := l.length = n ∧ ∀ (v : Nat) (x : Int), l[v]? = some x → Con E v x ∧ 0 ≤ x
theorem Dn.set {l : List Int} (h : Dn n E l) {v : Nat} {x : Int} (hc : Con E v x) (h0 : 0 ≤ x) : Dn n E (l.set v x) := by
  refine ⟨by simp [h.1], fun u y hu => ?_⟩
  rw [List.getElem?_set] at hu
  split at hu
  · subst v
    split at hu
    · cases hu; exact ⟨hc, h0⟩
    · cases hu
  · exact h.2 u y hu
theorem getD_at {l : List Int} {i : Nat} (h : i < l.length) : l[i]? = some (l.getD i 0) := by
  rw [List.getD_eq_getElem?_getD, List.getElem?_eq_getElem h]; rfl
end
theorem h_sl01In (a b c : Int) : g_sl01In (a, b, c) = some (decide (b ≤ a) && decide (a ≤ c), ()) := by
  show f_sl01In BIG _ = _
  rw [e_sl01In]
  cases decide (b ≤ a) <;> rfl
theorem h_iin (a b c : Int) : g_iin (a, b, c) = some (decide (b ≤ a) && decide (a ≤ c), ()) := by
  show f_iin BIG _ = _
  rw [e_iin]
  cases decide (b ≤ a) <;> rfl
abbrev Ed := Int × Int
theorem foldl_filter {α : Type} (p : α → Bool) : ∀ (l : List α) (s : List α), l.foldl (fun s y => if p y then s ++ [y] else s) s = s ++ l.filter p
  | [], s => by simp
  | y :: l, s => by
    rw [List.foldl_cons, foldl_filter p l]
    cases h : p y <;> simp [h]
abbrev Sd := Int × Int × Int × Int × Int × Int
noncomputable def pl (l : List Sd) (k : Int) : Int := match g_isaidAt (l, k) with
  | some (r, _) => r
  | none => 0
def inB (a b c : Int) : Bool := decide (b ≤ a) && decide (a ≤ c)
theorem h_sl01In' (a b c : Int) : g_sl01In (a, b, c) = some (inB a b c, ()) := h_sl01In a b c
theorem h_iin' (a b c : Int) : g_iin (a, b, c) = some (inB a b c, ()) := h_iin a b c
theorem inB_t {a b c : Int} : inB a b c = true ↔ b ≤ a ∧ a ≤ c := by simp [inB]
def edB (n : Int) (e : Ed) : Bool := inB n 1 12 && (inB e.1 0 (n - 1) && (inB e.2 0 (n - 1) && decide (e.1 < e.2)))
theorem h_sEdgeOk (n : Int) (e : Ed) : g_sEdgeOk (n, e) = some (edB n e, ()) := by
  show f_sEdgeOk BIG _ = _
  rw [e_sEdgeOk, h_sl01In', Option.bind_some]
  unfold edB
  cases h : inB n 1 12 with
  | false => rfl
  | true =>
    have := inB_t.1 h
    rw [wr (by omega) (by omega)]
    simp only [h_sl01In', Option.bind_some, cond_true, Bool.true_and]
    cases inB e.1 0 (n - 1) <;> cases inB e.2 0 (n - 1) <;> rfl
def lsB (x y : Ed) : Bool := decide (x.1 < y.1) || (decide (x.1 = y.1) && decide (x.2 < y.2))
theorem h_sl05Less (x y : Ed) : g_sl05Less (x, y) = some (lsB x y, ()) := by
  show f_sl05Less BIG _ = _
  rw [e_sl05Less]
  unfold lsB
  cases decide (x.1 < y.1) <;> cases decide (x.1 = y.1) <;> rfl
def eP (n : Int) (es : List Ed) (i : Nat) : Bool := match es[i]? with
  | some y => edB n y && (match i with
    | 0 => true
    | j + 1 => match es[j]? with
      | some x => lsB x y
      | none => false)
  | none => false
def eOk (n : Int) (es : List Ed) : Bool := if ∀ i, i < es.length → eP n es i = true then decide ((es.length : Int) ≤ 66) else false
def lbP (l : List Int) (i : Nat) : Bool := match l[i]? with
  | some y => inB y 0 i && (match l[y.toNat]? with
    | some z => decide (z = y)
    | none => false)
  | none => false
def lbOk (n : Int) (l : List Int) : Bool := if (l.length : Int) = n then (if ∀ i, i < l.length → lbP l i = true then true else false) else false
theorem lsB_iff (x y : Ed) : lsB x y = true ↔ x.1 < y.1 ∨ (x.1 = y.1 ∧ x.2 < y.2) := by simp [lsB]
theorem lsB_trans {x y z : Ed} (h : lsB x y = true) (h' : lsB y z = true) : lsB x z = true := by
  rw [lsB_iff] at *; omega
theorem lsB_tri {x y : Ed} (h : lsB x y = false) (h' : lsB y x = false) : x = y := by
  have h1 : ¬ lsB x y = true := by simp [h]
  have h2 : ¬ lsB y x = true := by simp [h']
  rw [lsB_iff] at h1 h2
  exact Prod.ext (by omega) (by omega)
abbrev Srt (l : List Ed) : Prop := l.Pairwise (fun x y => lsB x y = true)
def ins (l : List Ed) (e : Ed) : List Ed := l.filter (fun y => lsB y e) ++ [e] ++ l.filter (fun y => lsB e y)
theorem ins_mem {l : List Ed} {e x : Ed} : x ∈ ins l e ↔ x = e ∨ x ∈ l := by
  simp only [ins, List.mem_append, List.mem_filter, List.mem_singleton]
  constructor
  · rintro ((h | h) | h)
    · exact .inr h.1
    · exact .inl h
    · exact .inr h.1
  · rintro (h | h)
    · exact .inl (.inr h)
    · cases h1 : lsB x e with
      | true => exact .inl (.inl ⟨h, rfl⟩)
      | false =>
        cases h2 : lsB e x with
        | true => exact .inr ⟨h, rfl⟩
        | false => exact .inl (.inr (lsB_tri h1 h2))
theorem ins_srt {l : List Ed} {e : Ed} (h : Srt l) : Srt (ins l e) := by
  simp only [ins, Srt, List.append_assoc, List.pairwise_append, List.singleton_append, List.pairwise_cons]
  refine ⟨h.filter _, ⟨fun y hy => (List.mem_filter.1 hy).2, h.filter _⟩, fun x hx y hy => ?_⟩
  have h1 := (List.mem_filter.1 hx).2
  rcases List.mem_cons.1 hy with hy | hy
  · subst hy; exact h1
  · exact lsB_trans h1 (List.mem_filter.1 hy).2
theorem h_sl05Has (l : List Ed) (e : Ed) (hl : l.length ≤ maxLen) : g_sl05Has (l, e) = some (decide (e ∈ l), ()) := by
  show f_sl05Has BIG _ = _
  rw [e_sl05Has, allLoop l (Nat.lt_of_le_of_lt hl maxLen_lt) (fun i => decide (l[i]? ≠ some e)) true (fun self i y hy => by
      have hi := (List.getElem?_eq_some_iff.1 hy).1
      simp only [show ((i : Int) < (l.length : Int)) from by omega, decide_true, cond_true]
      rw [bnd_nat hi, hy, Option.bind_some, wr1 (by omega)]
      obtain ⟨y1, y2⟩ := y
      obtain ⟨e1, e2⟩ := e
      by_cases h1 : y1 = e1 <;> by_cases h2 : y2 = e2 <;> simp [h1, h2]) (fun self => by simp)]
  by_cases h : e ∈ l
  · rw [if_neg, decide_eq_true h]
    · rfl
    · intro hh
      obtain ⟨i, hi⟩ := List.getElem?_of_mem h
      have := hh i (List.getElem?_eq_some_iff.1 hi).1
      rw [decide_eq_true_eq] at this
      exact this hi
  · rw [if_pos, decide_eq_false h]
    · rfl
    · intro i hi
      rw [decide_eq_true_eq]
      exact fun hh => h (List.mem_of_getElem? hh)
theorem h_sl05Put (l : List Ed) (e : Ed) (hl : l.length ≤ 1048576) : g_sl05Put (l, e) = some (ins l e, ()) := by
  have hm : maxLen = 9223372036854775807 := by decide
  show f_sl05Put BIG _ = _
  rw [e_sl05Put, foldLoop l (by omega) (fun i (c : List Ed) => c.length ≤ i) (fun c y => if lsB y e then c ++ [y] else c) id (by simp) (fun i c y _ (h : c.length ≤ i) => by show List.length (if _ then _ else _) ≤ _; split <;> (try simp) <;> omega)]
  · rw [foldl_filter]
    simp only [id, List.nil_append, Option.bind_some]
    have h1 := List.length_filter_le (fun y => lsB y e) l
    rw [decide_eq_true (by simp; omega), cond_true, foldLoop l (by omega) (fun i (c : List Ed) => c.length ≤ l.length + 1 + i) (fun c y => if lsB e y then c ++ [y] else c) id (by simp; omega) (fun i c y _ (h : c.length ≤ _) => by show List.length (if _ then _ else _) ≤ _; split <;> (try simp) <;> omega)]
    · rw [foldl_filter]; rfl
    · intro self c i y hy (hc : c.length ≤ _)
      have hi := (List.getElem?_eq_some_iff.1 hy).1
      simp only [show ((i : Int) < (l.length : Int)) from by omega, decide_true, cond_true]
      simp only [bnd_nat hi, hy, Option.bind_some, h_sl05Less, wr1 (show i < maxLen from by omega)]
      cases lsB e y with
      | false => simp
      | true => simp [show c.length + 1 ≤ 4294967296 from by omega]
    · intro self c hc
      simp
  · intro self c i y hy (hc : c.length ≤ i)
    have hi := (List.getElem?_eq_some_iff.1 hy).1
    simp only [show ((i : Int) < (l.length : Int)) from by omega, decide_true, cond_true]
    simp only [bnd_nat hi, hy, Option.bind_some, h_sl05Less, wr1 (show i < maxLen from by omega)]
    cases lsB y e with
    | false => simp
    | true => simp [show c.length + 1 ≤ 4294967296 from by omega]
  · intro self c hc
    simp
/-- A walk that may fail. -/
def fM {S α : Type} (st : S → α → Option S) : S → List α → Option S
  | s, [] => some s
  | s, y :: l => (st s y).bind fun s' => fM st s' l
theorem and255 (n : Int) : bits .and .i64 n 255 = n % 256 := by
  have h255 : (BitVec.ofInt 64 255).toNat = 2 ^ 8 - 1 := by decide
  have key : (BitVec.ofInt 64 n &&& BitVec.ofInt 64 255).toNat = (n % ((2 ^ 64 : Nat) : Int)).toNat % 2 ^ 8 := by
    rw [BitVec.toNat_and, BitVec.toNat_ofInt, h255, Nat.and_two_pow_sub_one_eq_mod]
  show IntKind.i64.wrap ((BitVec.ofInt 64 n &&& BitVec.ofInt 64 255).toNat : Nat) = n % 256
  rw [key, IntKind.wrap_i64]
  omega
abbrev Cur := List Int × Int × Int
def curOk (c : Cur) : Prop := c.1.length ≤ 1048576 ∧ 0 ≤ c.2.1 ∧ c.2.1 ≤ c.1.length
theorem h_sl01Byte (c : Cur) (hc : curOk c) : ∃ r c', g_sl01Byte c = some (r, c') ∧ curOk c' ∧ 0 ≤ r ∧ r ≤ 255 := by
  have e : g_sl01Byte c = f_sl01Byte BIG c := rfl
  obtain ⟨h1, h2, h3⟩ := hc
  rw [e, e_sl01Byte, decide_eq_false (by decide), cond_false, decide_eq_false (by decide), cond_false]
  simp only [and255]
  by_cases h : c.2.1 < c.1.length
  · rw [decide_eq_true h, cond_true, bnd_ok h2 h, List.getElem?_eq_getElem (by omega), Option.bind_some, Option.bind_some]
    refine ⟨_, _, rfl, ⟨h1, ?_, ?_⟩, Int.emod_nonneg _ (by decide), by omega⟩
    · show 0 ≤ IntKind.wrap .i64 (c.2.1 + 1)
      rw [wr (by omega) (by omega)]; omega
    · show IntKind.wrap .i64 (c.2.1 + 1) ≤ _
      rw [wr (by omega) (by omega)]
      show c.2.1 + 1 ≤ (c.1.length : Int)
      omega
  · rw [decide_eq_false h, cond_false, Option.bind_some]
    exact ⟨_, _, rfl, ⟨h1, h2, h3⟩, Int.emod_nonneg _ (by decide), by omega⟩
theorem h_sl01Below (c : Cur) (n : Int) (hc : curOk c) (hn : n ≤ 1000000) : ∃ r c', g_sl01Below (c, n) = some (r, c') ∧ curOk c' ∧ 0 ≤ r ∧ (0 < n → r < n) ∧ (n ≤ 0 → r = 0) := by
  have e : g_sl01Below (c, n) = f_sl01Below BIG (c, n) := rfl
  rw [e, e_sl01Below]
  by_cases h0 : n ≤ 0
  · rw [decide_eq_true h0]; exact ⟨0, c, rfl, hc, by omega, by omega, fun _ => rfl⟩
  · rw [decide_eq_false h0, cond_false]
    obtain ⟨r1, c1, k1, o1, a1, b1⟩ := h_sl01Byte c hc
    by_cases h1 : n ≤ 256
    · rw [decide_eq_true h1, cond_true, k1, Option.bind_some, decide_eq_false (by omega), cond_false]
      refine ⟨_, _, rfl, o1, Int.tmod_nonneg _ a1, fun _ => ?_, by omega⟩
      show Int.tmod r1 n < n
      exact Int.tmod_lt_of_pos _ (by omega)
    · rw [decide_eq_false h1, cond_false, k1, Option.bind_some]
      obtain ⟨r2, c2, k2, o2, a2, b2⟩ := h_sl01Byte c1 o1
      obtain ⟨r3, c3, k3, o3, a3, b3⟩ := h_sl01Byte c2 o2
      obtain ⟨r4, c4, k4, o4, a4, b4⟩ := h_sl01Byte c3 o3
      simp only [k2, k3, k4, Option.bind_some]
      rw [decide_eq_false (by omega), cond_false]
      refine ⟨_, _, rfl, o4, ?_, fun _ => Int.tmod_lt_of_pos _ (by omega), by omega⟩
      refine Int.tmod_nonneg _ ?_
      rw [wr (n := r1 * 16777216) (by omega) (by omega), wr (n := r2 * 65536) (by omega) (by omega), wr (n := r3 * 256) (by omega) (by omega), wr (n := r1 * 16777216 + r2 * 65536) (by omega) (by omega), wr (n := r1 * 16777216 + r2 * 65536 + r3 * 256) (by omega) (by omega), wr (by omega) (by omega)]
      omega
def GrOk (n : Int) (es : List Ed) : Prop := 2 ≤ n ∧ n ≤ 12 ∧ Srt es ∧ (∀ e, e ∈ es → edB n e = true)
theorem h_sl01New (a : List Int) (ha : a.length ≤ 1048576) : ∃ c, g_sl01New a = some (c, ()) ∧ curOk c := by
  have hm : maxLen = 9223372036854775807 := by decide
  have e : g_sl01New a = f_sl01New BIG a := rfl
  rw [e, e_sl01New]
  have := loop_rel (F := fun (self1 : Int × Int → Option (Int)) (x0 : Int × Int) =>
    Option.bind (bif decide (x0.2 < (a.length : Int)) then
      some (decide (x0.2 < (4000 : Int)))
     else some false : Option (Bool)) fun x2 =>
    bif x2 then
     bnd a.length x0.2 fun n3 =>
     Option.bind a[n3]? fun y4 =>
     self1 (bits .and .i64 (IntKind.wrap .i64 ((IntKind.wrap .i64 ((IntKind.wrap .i64 (x0.1 * (131 : Int))) + (IntKind.wrap .i64 (y4)))) + (7 : Int))) (1073741823 : Int), IntKind.wrap .i64 (x0.2 + (1 : Int)))
    else some x0.1) (fun x => ∃ i : Nat, x.2 = i ∧ i ≤ a.length) (fun x => a.length - x.2.toNat) (fun _ _ => True) (fun self x ⟨i, h1, h2⟩ hs => ?_) (n := BIG) (x := (IntKind.wrap .i64 ((13501 : Int) + (a.length : Int)), 0)) (by simp [BIG]; omega) ⟨0, rfl, by omega⟩
  · obtain ⟨b, hb, _⟩ := this
    rw [hb]
    exact ⟨_, rfl, ha, Int.le_refl _, by simp⟩
  · obtain ⟨z, j⟩ := x
    simp only at h1
    subst h1
    by_cases h : i < a.length
    · by_cases h' : (i : Int) < 4000
      · simp only [show ((i : Int) < (a.length : Int)) from by omega, h', decide_true, cond_true, Option.bind_some]
        rw [bnd_nat h, List.getElem?_eq_getElem h, Option.bind_some, wr1 (by omega)]
        exact hs _ ⟨i + 1, rfl, h⟩ (by simp; omega)
      · simp only [show ((i : Int) < (a.length : Int)) from by omega, h', decide_true, decide_false, cond_true, cond_false, Option.bind_some]
        exact ⟨_, rfl, trivial⟩
    · simp only [show ¬ ((i : Int) < (a.length : Int)) from by omega, decide_false, cond_false, Option.bind_some]
      exact ⟨_, rfl, trivial⟩
theorem GrOk.ins {n : Int} {es : List Ed} {e : Ed} (h : GrOk n es) (he : edB n e = true) : GrOk n (ins es e) := ⟨h.1, h.2.1, ins_srt h.2.2.1, fun x hx => by
  rcases ins_mem.1 hx with rfl | hx
  · exact he
  · exact h.2.2.2 x hx⟩
theorem h_lbig (a : List Int) : g_lbig a = some (decide ((1048576 : Int) < (a.length : Int)), ()) := e_lbig BIG a
theorem h_sl01Once (c : Cur) (n : Int) (hc : curOk c) (hn : n ≤ 1000000) : ∃ b c', g_sl01Once (c, n) = some (b, c') ∧ curOk c' := by
  have e : g_sl01Once (c, n) = f_sl01Once BIG (c, n) := rfl
  obtain ⟨r, c', k, o, _⟩ := h_sl01Below c n hc hn
  rw [e, e_sl01Once, k]
  exact ⟨_, _, rfl, o⟩
theorem exitG {α S T X B : Type} (a : List α) (hl : a.length < 18446744073709551616) {F : (X → Option (T ⊕ B)) → X → Option (T ⊕ B)} (mk : S → Int → X) (I : Nat → S → Prop) (st : S → α → Option S) (R : S → T) (b : B) {s0 : S} (h0 : I 0 s0)
    (hI : ∀ i s s' y, a[i]? = some y → I i s → st s y = some s' → I (i + 1) s') (hF : ∀ self s (i : Nat) y, a[i]? = some y → I i s → F self (mk s (i : Int)) = match st s y with | some s' => self (mk s' ((i + 1 : Nat) : Int)) | none => some (.inr b))
    (hE : ∀ self s, I a.length s → F self (mk s (a.length : Int)) = some (.inl (R s))) : loopT BIG F (mk s0 0) = some (match fM st s0 a with | some s => .inl (R s) | none => .inr b) := by
  have key : ∀ (k n i : Nat) (s : S), a.length - i ≤ k → k < n → i ≤ a.length → I i s → it F n (mk s (i : Int)) = some (match fM st s (a.drop i) with | some s => .inl (R s) | none => .inr b) := by
    intro k
    induction k with
    | zero =>
      intro n i s hk hn hi hs
      obtain ⟨m, rfl⟩ : ∃ m, n = m + 1 := ⟨n - 1, by omega⟩
      have : i = a.length := by omega
      subst this
      show F (it F m) _ = _
      rw [hE _ _ hs, List.drop_length]; rfl
    | succ k ih =>
      intro n i s hk hn hi hs
      obtain ⟨m, rfl⟩ : ∃ m, n = m + 1 := ⟨n - 1, by omega⟩
      show F (it F m) _ = _
      by_cases hi' : i < a.length
      · have hy := List.getElem?_eq_getElem hi'
        rw [hF _ _ _ _ hy hs, List.drop_eq_getElem_cons hi']
        cases hst : st s a[i] with
        | none => simp only [fM, hst, Option.bind_none]
        | some s' =>
          simp only
          rw [ih m (i + 1) _ (by omega) (by omega) hi' (hI _ _ _ _ hy hs hst)]
          simp only [fM, hst, Option.bind_some]
      · have : i = a.length := by omega
        subst this
        rw [hE _ _ hs, List.drop_length]; rfl
  have := key a.length BIG 0 s0 (by omega) (by simpa [BIG] using hl) (by omega) h0
  show it F BIG (mk s0 0) = _
  simpa using this
/-- A byte of a number. -/
def by8 (n : Int) : UInt8 := UInt8.ofNat (n % 256).toNat
def vF : Nat → Nat → List UInt8
  | 0, v => [by8 (v : Int)]
  | k + 1, v => if v ≤ 127 then [by8 (v : Int)] else by8 ((v % 128 + 128 : Nat) : Int) :: vF k (v / 128)
def vB (v : Nat) : List UInt8 := vF 9 v
def e2 (e : Ed) : List UInt8 := [by8 e.1, by8 e.2]
/-- A number read off bytes, of which it takes so many at most; and how many it took. -/
def dec : Nat → List UInt8 → Option (Nat × Nat)
  | 0, _ => none
  | _ + 1, [] => none
  | k + 1, b :: l => if b.toNat < 128 then some (b.toNat, 1) else (dec k l).map fun r => (b.toNat - 128 + 128 * r.1, r.2 + 1)
/-- What is read there, when it is a number in its own bytes. -/
def rdV (l : List UInt8) : Option (Nat × Nat) := match dec 5 l with
  | some (v, m) => if v ≤ 1000000000 ∧ vB v = l.take m then some (v, m) else none
  | none => none
abbrev St := Nat × Bool
def nm (T : List UInt8) (s : St) : Int × St :=
  if s.2 then (0, (s.1, true)) else match rdV (T.drop s.1) with
  | some (v, m) => ((v : Int), (s.1 + m, false))
  | none => (0, (s.1, true))
def on (T : List UInt8) (s : St) : Int × St :=
  if s.2 then (0, (s.1, true)) else match T[s.1]? with
  | some b => ((b.toNat : Int), (s.1 + 1, false))
  | none => (0, (s.1, true))
def edF (T : List UInt8) : Nat → St → List Ed → St × List Ed
  | 0, s, out => (s, out)
  | k + 1, s, out => if s.2 then (s, out) else edF T k (on T (on T s).2).2 (out ++ [((on T s).1, (on T (on T s).2).1)])
def q0 (T : List UInt8) : Int × St := nm T (0, false)
def q1 (T : List UInt8) : Int × St := on T (q0 T).2
def q2 (T : List UInt8) : Int × St := nm T (q1 T).2
def q3 (T : List UInt8) (K : Nat) : St × List Ed := edF T K (nm T (q2 T).2).2 []
def lbF (T : List UInt8) : Nat → St → List Int → St × List Int
  | 0, s, out => (s, out)
  | k + 1, s, out => lbF T k (on T s).2 (out ++ [(on T s).1])
def q4 (T : List UInt8) (K : Nat) : St × List Ed := edF T K (nm T (q1 T).2).2 []
def q5 (T : List UInt8) (K N : Nat) : St × List Int := lbF T N (q4 T K).1 []
theorem h_sl05SameInts (a b : List Int) (ha : a.length ≤ maxLen) : g_sl05SameInts (a, b) = some (decide (a = b), ()) := by
  show f_sl05SameInts BIG _ = _
  rw [e_sl05SameInts]
  by_cases hl : a.length = b.length
  · rw [decide_eq_true (by omega), Bool.not_true, cond_false, eqLoop a b ha hl false]
    · by_cases h : a = b <;> simp [h]
    · intro self i x y hx hy
      have hi := (List.getElem?_eq_some_iff.1 hx).1
      simp only [show ((i : Int) < (a.length : Int)) from by omega, decide_true, cond_true]
      rw [bnd_nat hi, hx, Option.bind_some, bnd_nat (by omega), hy, Option.bind_some, wr1 (by omega)]
      by_cases h1 : x = y <;> simp [h1]
    · intro self
      simp
  · rw [decide_eq_false (by omega), Bool.not_false, cond_true, decide_eq_false (fun h => hl (by rw [h]))]
theorem fiLoop {α : Type} (a : List α) (hl : a.length < 18446744073709551616) (p : α → Bool) {F : (Int → Option (Unit ⊕ Int)) → Int → Option (Unit ⊕ Int)}
    (hF : ∀ self (i : Nat) y, a[i]? = some y → F self (i : Int) = if p y then some (.inr (i : Int)) else self ((i + 1 : Nat) : Int))
    (hE : ∀ self, F self (a.length : Int) = some (.inl ())) : loopT BIG F 0 = some (if a.findIdx p < a.length then .inr (a.findIdx p : Int) else .inl ()) := by
  refine loop_eq (fun (x : Int) => ∃ i : Nat, x = (i : Int) ∧ i ≤ a.length ∧ ∀ j (hj : j < a.length), j < i → p a[j] = false) (fun x => a.length - x.toNat) (fun _ => _) (fun self x ⟨i, h1, h2, h3⟩ hs => ?_) (n := BIG) (x := 0) (by simp; exact hl) ⟨0, rfl, by simp, fun j _ hj => by omega⟩
  subst h1
  by_cases hi : i < a.length
  · rw [hF self i a[i] (List.getElem?_eq_getElem hi)]
    cases hp : p a[i] with
    | true =>
      have : a.findIdx p = i := (List.findIdx_eq hi).2 ⟨hp, fun j hj => h3 j (by omega) hj⟩
      rw [if_pos rfl, this, if_pos hi]
    | false =>
      rw [if_neg (by simp)]
      exact hs _ ⟨i + 1, rfl, hi, fun j hj hji => by
        by_cases hj' : j = i
        · subst hj'; exact hp
        · exact h3 j hj (by omega)⟩ (by simp; omega)
  · have he : i = a.length := by omega
    subst he
    rw [hE, if_neg]
    intro h
    have h4 := List.findIdx_lt_length.1 h
    obtain ⟨x, hx, hpx⟩ := h4
    obtain ⟨j, hj, rfl⟩ := List.getElem_of_mem hx
    rw [h3 j hj hj] at hpx
    cases hpx
theorem gD {α : Type} {l : List α} {i : Nat} {y d : α} (h : l[i]? = some y) : l.getD i d = y := by rw [List.getD_eq_getElem?_getD, h]; rfl
theorem w_icopyInts (l : List Int) (h : l.length ≤ 1048576) : g_icopyInts l = some (l, ()) := by
  show f_icopyInts BIG _ = _
  rw [e_icopyInts, decide_eq_true (by omega)]; rfl
/-- A head that is right, and what is known of it. -/
structure HdF (x0 : Int) (x1 : List Int) (x2 : List Ed) (x3 : List (List Int)) (x4 : List Int) (x14 : List Sd) : Prop where
  n : 1 ≤ x0 ∧ x0 ≤ 12
  k : 1 ≤ x3.length ∧ x3.length ≤ 3
  nums : x4.length = x3.length
  own : (x1.length : Int) = x0
  cuts : eOk x0 x2 = true
  said : x14.length ≤ 80
  o1 : ∀ i, i < x1.length → 1 ≤ x1.getD i 0 ∧ x1.getD i 0 ≤ x3.length
  o3 : ∀ i, i < x3.length → lbOk x0 (x3.getD i []) = true ∧ 0 ≤ x4.getD i 0 ∧ x4.getD i 0 ≤ 99991
section
variable {x0 : Int} {x1 : List Int} {x2 : List Ed} {x3 : List (List Int)} {x4 : List Int} {x14 : List Sd}
theorem HdF.at (h : HdF x0 x1 x2 x3 x4 x14) {v : Int} (h1 : 0 ≤ v) (h2 : v ≤ x0 - 1) : v < x1.length ∧ x1[v.toNat]? = some (x1.getD v.toNat 0) ∧ 1 ≤ x1.getD v.toNat 0 ∧ x1.getD v.toNat 0 ≤ x3.length := by
  have ho := h.own
  have := h.o1 v.toNat (by omega)
  exact ⟨by omega, getD_at (by omega), this.1, this.2⟩
end
theorem filt_two {α : Type} (p q : α → Bool) (h : ∀ x, p x = true → q x = true → False) : ∀ l : List α, (l.filter p).length + (l.filter q).length ≤ l.length
  | [] => by simp
  | x :: l => by
    have ih := filt_two p q h l
    rw [List.filter_cons, List.filter_cons, List.length_cons]
    cases hp : p x <;> cases hq : q x <;> simp only [Bool.false_eq_true, if_false, if_true, List.length_cons] <;> first
      | omega
      | exact absurd hq (fun hq => h x hp hq)
theorem ins_le (l : List Ed) (e : Ed) : (ins l e).length ≤ l.length + 1 := by
  unfold ins
  have := filt_two (fun y => lsB y e) (fun y => lsB e y) (fun x h1 h2 => by
    simp only [lsB, Bool.or_eq_true, Bool.and_eq_true, decide_eq_true_eq] at h1 h2
    omega) l
  simp only [List.length_append, List.length_cons, List.length_nil]; omega
theorem loop_bind {X B C : Type} {F : (X → Option B) → X → Option B} (I : X → Prop) (μ : X → Nat) (Q : X → B → Prop) (P : Option C → Prop) {x : X} {k : B → Option C} (hx : μ x < BIG) (hi : I x)
    (h : ∀ self x, I x → (∀ y, I y → μ y < μ x → ∃ b, self y = some b ∧ Q y b) → ∃ b, F self x = some b ∧ Q x b) (hk : ∀ b, Q x b → P (k b)) : P (Option.bind (loopT BIG F x) k) := by
  obtain ⟨b, h1, h2⟩ := loop_rel (F := F) I μ Q h hx hi
  rw [h1]
  exact hk b h2
theorem h_lsameInts (a b : List Int) (ha : a.length ≤ maxLen) : g_lsameInts (a, b) = some (decide (a = b), ()) := by
  rw [← h_sl05SameInts a b ha]
  show f_lsameInts BIG _ = f_sl05SameInts BIG _
  rw [e_lsameInts, e_sl05SameInts]
  all_goals rfl
theorem h_sDrawPlaces (a : List Int) (ha : a.length ≤ 1048576) : ∃ p, g_sDrawPlaces a = some (p, ()) ∧ p.length = 12 ∧ ∀ x, x ∈ p → 0 ≤ x ∧ x < 10000 := by
  have hm : maxLen = 9223372036854775807 := by decide
  have e : g_sDrawPlaces a = f_sDrawPlaces BIG a := rfl
  rw [e, e_sDrawPlaces]
  obtain ⟨c, k, o⟩ := h_sl01New a ha
  obtain ⟨b, c1, k1, o1, _⟩ := h_sl01Byte c o
  rw [k, Option.bind_some, k1, Option.bind_some]
  refine loop_bind (P := fun o => ∃ p : List Int, o = some (p, ()) ∧ p.length = 12 ∧ ∀ x, x ∈ p → 0 ≤ x ∧ x < 10000) (fun (x : List Int × Cur × Int) => ∃ i : Nat, x.2.2 = (i : Int) ∧ i ≤ 12 ∧ x.1.length = i ∧ curOk x.2.1 ∧ ∀ y, y ∈ x.1 → 0 ≤ y ∧ y < 10000) (fun x => 12 - x.2.2.toNat) (fun _ (b : List Int) => b.length = 12 ∧ ∀ x, x ∈ b → 0 ≤ x ∧ x < 10000) (by simp [BIG]) ⟨0, rfl, by omega, rfl, o1, fun y hy => by cases hy⟩ (fun self x ⟨i, h1, h2, h3, h4, h5⟩ hs => ?_) (fun b h => ⟨b, rfl, h⟩)
  obtain ⟨s, cu, j⟩ := x
  simp only at h1 h3 h4 h5
  subst h1
  by_cases hi : i < 12
  · simp only [show ((i : Int) < 12) from by omega, decide_true, cond_true]
    obtain ⟨r, c2, k2, o2, r0, r1, _⟩ := h_sl01Below cu 10000 h4 (by decide)
    rw [k2, Option.bind_some, decide_eq_true (by simp only [List.length_cons, List.length_nil]; omega), cond_true, wr1 (by omega)]
    refine hs _ ⟨i + 1, rfl, hi, by simp only [List.length_append, List.length_cons, List.length_nil]; omega, o2, fun y hy => ?_⟩ (by simp; omega)
    simp only [List.mem_append, List.mem_singleton] at hy
    rcases hy with hy | rfl
    · exact h5 y hy
    · exact ⟨r0, r1 (by decide)⟩
  · have : i = 12 := by omega
    subst this
    simp only [show ¬ (((12 : Nat) : Int) < 12) from by omega, decide_false, cond_false]
    exact ⟨_, rfl, h3, h5⟩
inductive FT where
  | nil
  | nd (v : Int) (c s : FT)
def FT.vs : FT → List Int
  | .nil => []
  | .nd v c s => v :: (c.vs ++ s.vs)
def FT.sg : FT → Int → List Int
  | .nil, _ => []
  | .nd v c s, r => v :: (c.sg v ++ r :: s.sg r)
def FT.app : FT → FT → FT
  | .nil, g => g
  | .nd v c s, g => .nd v c (s.app g)
def tr (v : Int) (c : FT) : List Int := v :: c.sg v
theorem sg_app (r : Int) (g : FT) : ∀ f : FT, (f.app g).sg r = f.sg r ++ g.sg r
  | .nil => rfl
  | .nd v c s => by
    have := sg_app r g s
    simp [FT.app, FT.sg, this]
theorem vs_app (g : FT) : ∀ f : FT, (f.app g).vs = f.vs ++ g.vs
  | .nil => rfl
  | .nd v c s => by
    have := vs_app g s
    simp [FT.app, FT.vs, this]
theorem sg_len : ∀ (f : FT) (r : Int), (f.sg r).length = 2 * f.vs.length
  | .nil, _ => rfl
  | .nd v c s, r => by
    have := sg_len c v
    have := sg_len s r
    simp only [FT.sg, FT.vs, List.length_cons, List.length_append]; omega
theorem sg_last : ∀ (f : FT) (r : Int), f.sg r = [] ∨ ∃ L, f.sg r = L ++ [r]
  | .nil, _ => .inl rfl
  | .nd v c s, r => by
    right
    rcases sg_last s r with h | ⟨L, h⟩
    · exact ⟨v :: c.sg v, by simp [FT.sg, h]⟩
    · exact ⟨v :: (c.sg v ++ r :: L), by simp [FT.sg, h]⟩
theorem tr_last (v : Int) (c : FT) : ∃ L, tr v c = L ++ [v] := by
  rcases sg_last c v with h | ⟨L, h⟩
  · exact ⟨[], by simp [tr, h]⟩
  · exact ⟨v :: L, by simp [tr, h]⟩
theorem tr_len (v : Int) (c : FT) : (tr v c).length = 2 * c.vs.length + 1 := by
  simp [tr, sg_len]
theorem sg_mem : ∀ (f : FT) (r x : Int), x ∈ f.sg r ↔ x ∈ f.vs ∨ (x = r ∧ f.vs ≠ [])
  | .nil, r, x => by simp [FT.sg, FT.vs]
  | .nd v c s, r, x => by
    have h1 := sg_mem c v x
    have h2 := sg_mem s r x
    simp only [FT.sg, FT.vs, List.mem_cons, List.mem_append, h1, h2]
    constructor
    · rintro (h | (h | ⟨h, _⟩) | h | h | ⟨h, _⟩)
      · exact .inl (.inl h)
      · exact .inl (.inr (.inl h))
      · exact .inl (.inl h)
      · exact .inr ⟨h, by simp⟩
      · exact .inl (.inr (.inr h))
      · exact .inr ⟨h, by simp⟩
    · rintro ((h | h | h) | ⟨h, _⟩)
      · exact .inl h
      · exact .inr (.inl (.inl h))
      · exact .inr (.inr (.inr (.inl h)))
      · exact .inr (.inr (.inl h))
theorem tr_mem (v : Int) (c : FT) (x : Int) : x ∈ tr v c ↔ x ∈ v :: c.vs := by
  simp only [tr, List.mem_cons, sg_mem]
  constructor
  · rintro (h | h | ⟨h, _⟩)
    · exact .inl h
    · exact .inr h
    · exact .inl h
  · rintro (h | h)
    · exact .inl h
    · exact .inr (.inl h)
/-- A tour from a place of it on. -/
theorem rots : ∀ (k : Nat) (v : Int) (c : FT), k + 1 ≤ (tr v c).length → ∃ y d, (tr v c).drop k ++ ((tr v c).drop 1).take k = tr y d ∧ (y :: d.vs).Perm (v :: c.vs)
  | 0, v, c, _ => ⟨v, c, by simp, .refl _⟩
  | k + 1, v, .nil, h => by simp [tr, FT.sg] at h
  | k + 1, x, .nd y c s, h => by
    have hl := tr_len x (.nd y c s)
    simp only [FT.vs, List.length_cons, List.length_append] at hl
    obtain ⟨z, d, e, p⟩ := rots k y (c.app (.nd x s .nil)) (by
      rw [tr_len, vs_app]
      simp only [FT.vs, List.length_append, List.length_cons, List.length_nil]; omega)
    refine ⟨z, d, ?_, p.trans ?_⟩
    · rw [← e]
      have e1 : tr y (c.app (.nd x s .nil)) = (y :: (c.sg y ++ x :: s.sg x)) ++ [y] := by
        simp [tr, sg_app, FT.sg]
      have e2 : tr x (.nd y c s) = x :: y :: (c.sg y ++ x :: s.sg x) := rfl
      rw [e1, e2]
      generalize hR : c.sg y ++ x :: s.sg x = R
      have hRl : R.length = 2 * (c.vs.length + s.vs.length) + 1 := by
        rw [← hR]; simp only [List.length_append, List.length_cons, sg_len]; omega
      have hk : k ≤ R.length := by rw [e2] at h; simp only [List.length_cons, hR] at h; omega
      rw [List.drop_append_of_le_length (by simp only [List.length_cons]; omega)]
      simp only [List.drop_succ_cons, List.drop_zero, List.cons_append]
      rw [List.take_append_of_le_length hk]
      simp
    · rw [vs_app]
      simp only [FT.vs, List.append_nil]
      have : (y :: (c.vs ++ x :: s.vs)).Perm (y :: x :: (c.vs ++ s.vs)) := List.Perm.cons _ List.perm_middle
      exact this.trans (List.Perm.swap _ _ _)
/-- What Reroot makes. -/
def rotR (t : List Int) (k : Nat) (v : Int) : List Int := (t.drop k).take (t.length - 1 - k) ++ t.take k ++ [v]
theorem rotR_eq {v : Int} {c : FT} {k : Nat} (hk : k < (tr v c).length) : rotR (tr v c) k ((tr v c).getD k 0) = (tr v c).drop k ++ ((tr v c).drop 1).take k := by
  obtain ⟨L, hL⟩ := tr_last v c
  have hl : (tr v c).length = L.length + 1 := by rw [hL]; simp
  unfold rotR
  have h1 : (tr v c).take k ++ [(tr v c).getD k 0] = v :: ((tr v c).drop 1).take k := by
    have : (tr v c).take (k + 1) = (tr v c).take k ++ [(tr v c).getD k 0] := by
      rw [List.take_succ_eq_append_getElem hk]
      congr 2
      exact (gD (List.getElem?_eq_getElem hk)).symm
    rw [← this]
    simp [tr]
  have h2 : (tr v c).drop k = ((tr v c).drop k).take ((tr v c).length - 1 - k) ++ [v] := by
    rw [hl, hL, List.drop_append_of_le_length (by omega)]
    have h3 : L.length + 1 - 1 - k = (L.drop k).length := by simp
    rw [h3, List.take_left]
  rw [List.append_assoc, h1]
  conv => rhs; rw [h2]
  simp
/-- A step of the look at a tour. -/
def tStep (s : List Int × List Int) (v : Int) : Option (List Int × List Int) :=
  if 1 < s.1.length ∧ s.1.getD (s.1.length - 2) 0 = v then some (s.1.take (s.1.length - 1), s.2)
  else if (0 ≤ v ∧ v ≤ 11) ∧ v ∉ s.2 then some (s.1 ++ [v], s.2 ++ [v]) else none
theorem fM_app {S α : Type} (st : S → α → Option S) : ∀ (a b : List α) (s : S), fM st s (a ++ b) = (fM st s a).bind fun s' => fM st s' b
  | [], b, s => rfl
  | x :: a, b, s => by
    rw [List.cons_append, fM, fM]
    cases st s x with
    | none => rfl
    | some s' => simp only [Option.bind_some, fM_app st a b]
theorem run_sg : ∀ (f : FT) (r : Int) (P M : List Int), (∀ x, x ∈ P → x ∈ M) → (∀ x, x ∈ f.vs → x ∉ M) → f.vs.Nodup → (∀ x, x ∈ f.vs → 0 ≤ x ∧ x ≤ 11) → r ∈ M → fM tStep (P ++ [r], M) (f.sg r) = some (P ++ [r], M ++ f.vs)
  | .nil, r, P, M, _, _, _, _, _ => by simp [FT.sg, FT.vs, fM]
  | .nd v c s, r, P, M, hP, hd, hn, hr, hrM => by
    simp only [FT.vs] at hd hn hr ⊢
    rw [List.nodup_cons, List.mem_append, not_or, List.nodup_append] at hn
    obtain ⟨⟨n1, n2⟩, n3, n4, n5⟩ := hn
    have hv := hd v (List.mem_cons_self ..)
    have s1 : tStep (P ++ [r], M) v = some (P ++ [r] ++ [v], M ++ [v]) := by
      unfold tStep
      rw [if_neg, if_pos ⟨hr v (List.mem_cons_self ..), hv⟩]
      rintro ⟨g1, g2⟩
      simp only [List.length_append, List.length_cons, List.length_nil] at g1 g2
      have hlt : P.length + (0 + 1) - 2 < P.length := by omega
      have : (P ++ [r])[P.length + (0 + 1) - 2]? = some P[P.length + (0 + 1) - 2] := by
        rw [List.getElem?_append_left hlt, List.getElem?_eq_getElem hlt]
      rw [gD this] at g2
      exact hv (hP v (by rw [← g2]; exact List.getElem_mem _))
    have s2 := run_sg c v (P ++ [r]) (M ++ [v]) (fun x hx => by
      rw [List.mem_append, List.mem_singleton] at hx ⊢
      rcases hx with hx | rfl
      · exact .inl (hP x hx)
      · exact .inl hrM) (fun x hx hm => by
      rw [List.mem_append, List.mem_singleton] at hm
      rcases hm with hm | rfl
      · exact hd x (List.mem_cons_of_mem _ (List.mem_append_left _ hx)) hm
      · exact n1 hx) n3 (fun x hx => hr x (List.mem_cons_of_mem _ (List.mem_append_left _ hx))) (by simp)
    have s3 : tStep (P ++ [r] ++ [v], M ++ [v] ++ c.vs) r = some (P ++ [r], M ++ [v] ++ c.vs) := by
      unfold tStep
      rw [if_pos]
      · have : (P ++ [r] ++ [v]).take ((P ++ [r] ++ [v]).length - 1) = P ++ [r] := by
          rw [show (P ++ [r] ++ [v]).length - 1 = (P ++ [r]).length from by simp, List.take_left]
        simp only
        rw [this]
      · simp only [List.length_append, List.length_cons, List.length_nil]
        refine ⟨by omega, ?_⟩
        have : (P ++ [r] ++ [v])[P.length + (0 + 1) + (0 + 1) - 2]? = some r := by
          rw [List.getElem?_append_left (by simp), show P.length + (0 + 1) + (0 + 1) - 2 = P.length from by omega]
          simp
        exact gD this
    have s4 := run_sg s r P (M ++ [v] ++ c.vs) (fun x hx => by simp [hP x hx]) (fun x hx hm => by
      rw [List.mem_append, List.mem_append, List.mem_singleton] at hm
      rcases hm with (hm | rfl) | hm
      · exact hd x (List.mem_cons_of_mem _ (List.mem_append_right _ hx)) hm
      · exact n2 hx
      · exact n5 x hm x hx rfl) n4 (fun x hx => hr x (List.mem_cons_of_mem _ (List.mem_append_right _ hx))) (by simp [hrM])
    simp only [FT.sg]
    rw [fM, s1, Option.bind_some, fM_app, s2, Option.bind_some, fM, s3, Option.bind_some, s4]
    simp
/-- A right tour. -/
structure TrOk (v : Int) (c : FT) : Prop where
  nd : (v :: c.vs).Nodup
  rg : ∀ x, x ∈ v :: c.vs → 0 ≤ x ∧ x ≤ 11
theorem nodup_le : ∀ (n : Nat) (l : List Int), l.Nodup → (∀ x, x ∈ l → 0 ≤ x ∧ x < n) → l.length ≤ n
  | 0, l, _, h => by
    cases l with
    | nil => simp
    | cons x l => have := h x (List.mem_cons_self ..); omega
  | n + 1, l, hn, h => by
    have h1 := nodup_le n (l.erase (n : Int)) (hn.erase _) (fun x hx => by
      have h2 := (hn.mem_erase_iff).1 hx
      have := h x h2.2
      have := h2.1
      omega)
    have h2 := List.length_erase (a := (n : Int)) (l := l)
    split at h2
    · rw [h2] at h1; omega
    · rw [h2] at h1; omega
theorem TrOk.len {v : Int} {c : FT} (h : TrOk v c) : c.vs.length ≤ 11 := by
  have := nodup_le 12 (v :: c.vs) h.nd (fun x hx => by have := h.rg x hx; omega)
  simp only [List.length_cons] at this
  omega
theorem TrOk.run {v : Int} {c : FT} (h : TrOk v c) : fM tStep ([v], [v]) (c.sg v) = some ([v], v :: c.vs) := by
  have hn := h.nd
  rw [List.nodup_cons] at hn
  have := run_sg c v [] [v] (by simp) (fun x hx hm => by rw [List.mem_singleton] at hm; subst hm; exact hn.1 hx) hn.2 (fun x hx => h.rg x (List.mem_cons_of_mem _ hx)) (by simp)
  simpa using this
/-- A loop that looks whether there is one. -/
theorem hiLoop {α B : Type} (a : List α) (hl : a.length < 18446744073709551616) (p : α → Bool) (b : B) {F : (Int → Option (Unit ⊕ B)) → Int → Option (Unit ⊕ B)}
    (hF : ∀ self (i : Nat) y, a[i]? = some y → F self (i : Int) = if p y then some (.inr b) else self ((i + 1 : Nat) : Int))
    (hE : ∀ self, F self (a.length : Int) = some (.inl ())) : loopT BIG F 0 = some (if a.any p = true then .inr b else .inl ()) := by
  refine loop_eq (fun (x : Int) => ∃ i : Nat, x = (i : Int) ∧ i ≤ a.length ∧ ∀ j (hj : j < a.length), j < i → p a[j] = false) (fun x => a.length - x.toNat) (fun _ => _) (fun self x ⟨i, h1, h2, h3⟩ hs => ?_) (n := BIG) (x := 0) (by simp; exact hl) ⟨0, rfl, by simp, fun j _ hj => by omega⟩
  subst h1
  by_cases hi : i < a.length
  · rw [hF self i a[i] (List.getElem?_eq_getElem hi)]
    cases hp : p a[i] with
    | true => rw [if_pos rfl, if_pos (List.any_eq_true.2 ⟨a[i], List.getElem_mem hi, hp⟩)]
    | false =>
      rw [if_neg (by simp)]
      refine hs _ ⟨i + 1, rfl, hi, fun j hj hji => ?_⟩ (by simp; omega)
      by_cases hij : j = i
      · subst hij; exact hp
      · exact h3 j hj (by omega)
  · have : i = a.length := by omega
    subst this
    rw [hE, if_neg]
    intro h
    obtain ⟨y, hy, hp⟩ := List.any_eq_true.1 h
    obtain ⟨j, hj, rfl⟩ := List.getElem_of_mem hy
    rw [h3 j hj hj] at hp; cases hp
theorem h_ihasInt (l : List Int) (x : Int) (hl : l.length ≤ 1048576) : g_ihasInt (l, x) = some (decide (x ∈ l), ()) := by
  have hm : maxLen = 9223372036854775807 := by decide
  show f_ihasInt BIG _ = _
  rw [e_ihasInt, hiLoop l (by omega) (fun y => decide (y = x)) true (fun self i y hy => ?_) (fun self => by simp)]
  · rw [Option.bind_some]
    have : l.any (fun y => decide (y = x)) = true ↔ x ∈ l := by
      rw [List.any_eq_true]
      constructor
      · rintro ⟨y, hy, h⟩
        rw [decide_eq_true_eq] at h; rw [← h]; exact hy
      · exact fun h => ⟨x, h, by simp⟩
    by_cases h : x ∈ l
    · rw [if_pos (this.2 h), decide_eq_true h]
    · rw [if_neg (fun h' => h (this.1 h')), decide_eq_false h]
  · have hi := (List.getElem?_eq_some_iff.1 hy).1
    simp only [show ((i : Int) < (l.length : Int)) from by omega, decide_true, cond_true]
    rw [bnd_nat hi, hy, Option.bind_some, wr1 (by omega)]
    by_cases h : y = x <;> simp [h]
inductive De (pa : Int → Int → Prop) (v : Int) : Int → Prop
  | refl : De pa v v
  | step {a x : Int} : De pa v a → pa a x → De pa v x
/-- Edges that are trees: who is whose parent. -/
structure Fo (n : Nat) (es : List Ed) (pa : Int → Int → Prop) (rk : Int → Nat) : Prop where
  rg : ∀ {a b}, pa a b → (0 ≤ a ∧ a < n) ∧ (0 ≤ b ∧ b < n)
  ad : ∀ u v, ((if v < u then (v, u) else (u, v)) ∈ es) ↔ (pa u v ∨ pa v u)
  un : ∀ {a a' b}, pa a b → pa a' b → a = a'
  up : ∀ {a b}, pa a b → rk a < rk b
section
variable {n : Nat} {es : List Ed} {pa : Int → Int → Prop} {rk : Int → Nat} (F : Fo n es pa rk)
include F
theorem Fo.rk_le {v x : Int} (h : De pa v x) : rk v ≤ rk x := by
  induction h with
  | refl => exact Nat.le_refl _
  | step _ h2 ih => have := F.up h2; omega
omit F in
theorem De.trans {u v x : Int} (h : De pa u v) (h2 : De pa v x) : De pa u x := by
  induction h2 with
  | refl => exact h
  | step _ h2 ih => exact .step ih h2
theorem Fo.lin {u w x : Int} (h : De pa u x) : De pa w x → De pa u w ∨ De pa w u := by
  induction h with
  | refl => exact fun h => .inr h
  | step h1 h2 ih =>
    intro hw
    cases hw with
    | refl => exact .inl (.step h1 h2)
    | step g1 g2 =>
      have := F.un h2 g2
      subst this
      exact ih g1
theorem Fo.kids {v u u' x : Int} (h : pa v u) (h' : pa v u') (g : De pa u x) (g' : De pa u' x) : u = u' := by
  have key : ∀ {u u' : Int}, pa v u → pa v u' → De pa u u' → u = u' := by
    intro u u' h h' hd
    cases hd with
    | refl => rfl
    | step g1 g2 =>
      have := F.un h' g2
      subst this
      have := F.rk_le g1
      have := F.up h
      omega
  rcases F.lin g g' with hd | hd
  · exact key h h' hd
  · exact (key h' h hd).symm
/-- What hangs on a vertex but for where it is come from. -/
def Br (pa : Int → Int → Prop) (v fr x : Int) : Prop := fr = -1 ∨ (pa fr v ∧ De pa v x) ∨ (pa v fr ∧ ¬ De pa fr x)
def Nb (pa : Int → Int → Prop) (v fr u : Int) : Prop := u ≠ fr ∧ (pa u v ∨ pa v u)
theorem Fo.asy {u v : Int} (h : pa u v) (h' : pa v u) : False := by
  have := F.up h
  have := F.up h'
  omega
theorem Fo.br_self {v fr : Int} (h : fr = -1 ∨ pa fr v ∨ pa v fr) : Br pa v fr v := by
  rcases h with h | h | h
  · exact .inl h
  · exact .inr (.inl ⟨h, .refl⟩)
  · refine .inr (.inr ⟨h, fun hd => ?_⟩)
    have := F.rk_le hd
    have := F.up h
    omega
theorem Fo.br_kid {v u x : Int} (h : pa v u) : Br pa u v x ↔ De pa u x := by
  constructor
  · rintro (h1 | ⟨_, h2⟩ | ⟨h1, _⟩)
    · have := (F.rg h).1; omega
    · exact h2
    · exact (F.asy h h1).elim
  · exact fun h2 => .inr (.inl ⟨h, h2⟩)
theorem Fo.br_up {v u x : Int} (h : pa u v) : Br pa u v x ↔ ¬ De pa v x := by
  constructor
  · rintro (h1 | ⟨h1, _⟩ | ⟨_, h2⟩)
    · have := (F.rg h).2; omega
    · exact (F.asy h h1).elim
    · exact h2
  · exact fun h2 => .inr (.inr ⟨h, h2⟩)
theorem Fo.br_sub {v fr u x : Int} (hf : fr = -1 ∨ pa fr v ∨ pa v fr) (hu : Nb pa v fr u) (h : Br pa u v x) : Br pa v fr x ∧ x ≠ v := by
  obtain ⟨hne, hu | hu⟩ := hu
  · rw [F.br_up hu] at h
    refine ⟨?_, fun he => h (he ▸ .refl)⟩
    rcases hf with hf | hf | hf
    · exact .inl hf
    · exact absurd (F.un hu hf) hne
    · exact .inr (.inr ⟨hf, fun hd => h ((De.step .refl hf).trans hd)⟩)
  · rw [F.br_kid hu] at h
    refine ⟨?_, fun he => ?_⟩
    · rcases hf with hf | hf | hf
      · exact .inl hf
      · exact .inr (.inl ⟨hf, (De.step .refl hu).trans h⟩)
      · exact .inr (.inr ⟨hf, fun hd => hne (F.kids hu hf h hd)⟩)
    · subst he
      have := F.rk_le h
      have := F.up hu
      omega
theorem Fo.br_dis {v fr u u' x : Int} (hu : Nb pa v fr u) (hu' : Nb pa v fr u') (h : Br pa u v x) (h' : Br pa u' v x) : u = u' := by
  obtain ⟨_, hu | hu⟩ := hu
  · obtain ⟨_, hu' | hu'⟩ := hu'
    · exact F.un hu hu'
    · rw [F.br_up hu] at h
      rw [F.br_kid hu'] at h'
      exact absurd ((De.step .refl hu').trans h') h
  · obtain ⟨_, hu' | hu'⟩ := hu'
    · rw [F.br_kid hu] at h
      rw [F.br_up hu'] at h'
      exact absurd ((De.step .refl hu).trans h) h'
    · rw [F.br_kid hu] at h
      rw [F.br_kid hu'] at h'
      exact F.kids hu hu' h h'
/-- What a walk makes. -/
def WkP (n : Nat) (pa : Int → Int → Prop) (v fr : Int) (seen : List Bool) (f : FT) (seen' : List Bool) : Prop :=
  seen'.length = n ∧ (v :: f.vs).Nodup ∧ (∀ x, x ∈ v :: f.vs → (0 ≤ x ∧ x < n) ∧ Br pa v fr x) ∧ ∀ x : Nat, x < n → (seen'.getD x false = true ↔ seen.getD x false = true ∨ (x : Int) ∈ v :: f.vs)
omit F in
theorem getD_set_b {l : List Bool} {i j : Nat} (hi : i < l.length) : (l.set i true).getD j false = true ↔ l.getD j false = true ∨ j = i := by
  by_cases h : i = j
  · subst h
    rw [gD (List.getElem?_set_self hi)]
    simp
  · simp only [List.getD_eq_getElem?_getD, List.getElem?_set_ne h]
    constructor
    · exact .inl
    · rintro (h' | h')
      · exact h'
      · exact absurd h'.symm h
theorem w_sl06Walk (hn : n ≤ 12) (hes : es.length ≤ 1048576) : ∀ (d : Nat) (v fr : Int) (seen : List Bool) (W : List Int), seen.length = n → (0 ≤ v ∧ v < n) → (fr = -1 ∨ pa fr v ∨ pa v fr) →
    (∀ x : Nat, x < n → Br pa v fr x → seen.getD x false = false) → W.Nodup → (∀ x, x ∈ W → (0 ≤ x ∧ x < n) ∧ seen.getD x.toNat false = true) → n < W.length + d →
    ∃ f seen', g_sl06Walk d ((n : Int), es, v, fr, seen) = some ((tr v f, false), seen') ∧ WkP n pa v fr seen f seen'
  | 0, v, fr, seen, W, _, _, _, _, hWn, hW, hd => by
    have := nodup_le n W hWn (fun x hx => (hW x hx).1)
    omega
  | d + 1, v, fr, seen, W, hs, hv, hfr, hun, hWn, hW, hd => by
    have hm : maxLen = 9223372036854775807 := by decide
    have hvn : v.toNat < seen.length := by omega
    have hvf : seen.getD v.toNat false = false := hun v.toNat (by omega) (by rw [Int.toNat_of_nonneg hv.1]; exact F.br_self hfr)
    have hvW : v ∉ W := fun h => by
      have := (hW v h).2
      rw [hvf] at this; cases this
    have hW'n : (v :: W).Nodup := List.nodup_cons.2 ⟨hvW, hWn⟩
    show ∃ f seen', f_sl06Walk (g_sl06Walk d) BIG _ = _ ∧ _
    rw [e_sl06Walk]
    rw [bnd_ok hv.1 (by omega), List.getElem?_eq_getElem hvn, Option.bind_some]
    refine loop_bind (P := fun o => ∃ f seen', o = some ((tr v f, false), seen') ∧ WkP n pa v fr seen f seen')
      (fun (x : List Int × List Bool × Int) => ∃ (i : Nat) (f : FT), x.2.2 = (i : Int) ∧ i ≤ n ∧ x.1 = tr v f ∧ x.2.1.length = n ∧ (v :: f.vs).Nodup ∧ (∀ y, y ∈ f.vs → (0 ≤ y ∧ y < n) ∧ ∃ u : Nat, u < i ∧ Nb pa v fr u ∧ Br pa u v y) ∧ ∀ y : Nat, y < n → (x.2.1.getD y false = true ↔ seen.getD y false = true ∨ (y : Int) ∈ v :: f.vs))
      (fun x => n - x.2.2.toNat) (fun _ (b : (List Int × List Bool) ⊕ (List Int × Bool × List Bool)) => ∃ f seen', b = .inl (tr v f, seen') ∧ WkP n pa v fr seen f seen') (by simp [BIG]; omega)
      ⟨0, .nil, rfl, by omega, rfl, by rw [List.length_set]; exact hs, by simp [FT.vs], by simp [FT.vs], fun y hy => ?_⟩ (fun self x hx hself => ?_) (fun b ⟨f, seen', h1, h2⟩ => ?_)
    · rw [getD_set_b hvn]
      simp only [FT.vs, List.mem_cons, List.not_mem_nil, or_false]
      constructor
      · rintro (h | h)
        · exact .inl h
        · exact .inr (by omega)
      · rintro (h | h)
        · exact .inl h
        · exact .inr (by omega)
    · obtain ⟨out, sn, u⟩ := x
      obtain ⟨i, f, h1, h2, h3, h4, h5, h6, h7⟩ := hx
      simp only at h1 h2 h3 h4 h5 h6 h7 hself ⊢
      subst h1 h3
      have hfin : ∀ {j : Nat} {f : FT} {sn : List Bool}, sn.length = n → (v :: f.vs).Nodup → (∀ y, y ∈ f.vs → (0 ≤ y ∧ y < n) ∧ ∃ u : Nat, u < j ∧ Nb pa v fr u ∧ Br pa u v y) → (∀ y : Nat, y < n → (sn.getD y false = true ↔ seen.getD y false = true ∨ (y : Int) ∈ v :: f.vs)) → WkP n pa v fr seen f sn := by
        intro j f sn k1 k2 k3 k4
        refine ⟨k1, k2, fun x hx => ?_, k4⟩
        rw [List.mem_cons] at hx
        rcases hx with rfl | hx
        · exact ⟨hv, F.br_self hfr⟩
        · obtain ⟨g1, u, _, g2, g3⟩ := k3 x hx
          exact ⟨g1, (F.br_sub hfr g2 g3).1⟩
      by_cases hi : i < n
      · have hed : (bif decide (v < (i : Int)) then some (v, (i : Int)) else some ((i : Int), v)) = some (if v < (i : Int) then (v, (i : Int)) else ((i : Int), v)) := by
          by_cases h : v < (i : Int)
          · rw [decide_eq_true h, if_pos h]; rfl
          · rw [decide_eq_false h, if_neg h]; rfl
        simp only [show ((i : Int) < (n : Int)) from by omega, decide_true, cond_true, hed, Option.bind_some]
        have hnext : ∀ {f' : FT} {sn' : List Bool}, sn'.length = n → (v :: f'.vs).Nodup → (∀ y, y ∈ f'.vs → (0 ≤ y ∧ y < n) ∧ ∃ u : Nat, u < i + 1 ∧ Nb pa v fr u ∧ Br pa u v y) → (∀ y : Nat, y < n → (sn'.getD y false = true ↔ seen.getD y false = true ∨ (y : Int) ∈ v :: f'.vs)) →
            ∃ b, self (tr v f', sn', IntKind.wrap .i64 ((i : Int) + 1)) = some b ∧ ∃ f seen', b = .inl (tr v f, seen') ∧ WkP n pa v fr seen f seen' := by
          intro f' sn' k1 k2 k3 k4
          rw [wr1 (by omega)]
          exact hself _ ⟨i + 1, f', rfl, by omega, rfl, k1, k2, k3, k4⟩ (by simp; omega)
        have hskip : ∃ b, self (tr v f, sn, IntKind.wrap .i64 ((i : Int) + 1)) = some b ∧ ∃ f seen', b = .inl (tr v f, seen') ∧ WkP n pa v fr seen f seen' :=
          hnext h4 h5 (fun y hy => by
            obtain ⟨g1, u, g2, g3⟩ := h6 y hy
            exact ⟨g1, u, by omega, g3⟩) h7
        by_cases hif : (i : Int) = fr
        · rw [decide_eq_true hif]
          simp only [cond_true, Option.bind_some]
          exact hskip
        · rw [decide_eq_false hif]
          rw [cond_false, h_sl05Has _ _ (by omega), Option.bind_some]
          by_cases hin : (if v < (i : Int) then (v, (i : Int)) else ((i : Int), v)) ∈ es
          · have hnb : Nb pa v fr i := ⟨hif, (F.ad _ _).1 hin⟩
            have hfr' : v = -1 ∨ pa v i ∨ pa i v := by
              rcases hnb.2 with h | h
              · exact .inr (.inr h)
              · exact .inr (.inl h)
            have hfree : ∀ x : Nat, x < n → Br pa i v x → sn.getD x false = false := by
              intro x hx hb
              obtain ⟨b1, b2⟩ := F.br_sub hfr hnb hb
              cases hg : sn.getD x false with
              | false => rfl
              | true =>
                exfalso
                rcases (h7 x hx).1 hg with h | h
                · rw [hun x hx b1] at h; cases h
                · rw [List.mem_cons] at h
                  rcases h with h | h
                  · exact b2 h
                  · obtain ⟨_, u, u1, u2, u3⟩ := h6 _ h
                    have := F.br_dis u2 hnb u3 hb
                    omega
            have hif2 : sn.getD i false = false := hfree i hi (F.br_self hfr')
            have hil : i < sn.length := by omega
            rw [decide_eq_true hin]
            simp only [Bool.not_true, Option.bind_some, cond_false]
            have hsi : sn[i]? = some false := by
              rw [List.getElem?_eq_getElem hil]
              rw [gD (List.getElem?_eq_getElem hil)] at hif2
              rw [hif2]
            rw [bnd_nat hil, hsi, Option.bind_some, cond_false]
            obtain ⟨g, sn', e1, w1, w2, w3, w4⟩ := w_sl06Walk hn hes d i v sn (v :: W) h4 (by omega) hfr' hfree hW'n (fun x hx => by
              rw [List.mem_cons] at hx
              rcases hx with rfl | hx
              · exact ⟨hv, by rw [h7 x.toNat (by omega), Int.toNat_of_nonneg hv.1]; exact .inr (List.mem_cons_self ..)⟩
              · obtain ⟨x1, x2⟩ := hW x hx
                exact ⟨x1, by rw [h7 x.toNat (by omega)]; exact .inl x2⟩) (by simp only [List.length_cons]; omega)
            have hvl : f.vs.length ≤ 12 := by
              have := nodup_le n (v :: f.vs) h5 (fun x hx => by
                rw [List.mem_cons] at hx
                rcases hx with rfl | hx
                · exact hv
                · exact (h6 x hx).1)
              simp only [List.length_cons] at this; omega
            have hgl : g.vs.length ≤ 12 := by
              have := nodup_le n (_ :: g.vs) w2 (fun x hx => (w3 x hx).1)
              simp only [List.length_cons] at this; omega
            rw [e1, Option.bind_some]
            simp only [cond_false]
            rw [decide_eq_true (by simp only [tr_len]; omega), cond_true, decide_eq_true (by simp only [List.length_append, tr_len, List.length_cons, List.length_nil]; omega), cond_true, Option.bind_some]
            have eo : (tr v f ++ tr i g) ++ [v] = tr v (f.app (.nd i g .nil)) := by simp [tr, sg_app, FT.sg]
            simp only [eo]
            have evs : (f.app (.nd i g .nil)).vs = f.vs ++ ((i : Int) :: g.vs) := by rw [vs_app]; simp [FT.vs]
            refine hnext w1 ?_ (fun y hy => ?_) (fun y hy => ?_)
            · rw [evs]
              have : (v :: (f.vs ++ (i : Int) :: g.vs)) = (v :: f.vs) ++ (i : Int) :: g.vs := rfl
              rw [this, List.nodup_append]
              refine ⟨h5, w2, fun a ha b hb hab => ?_⟩
              subst hab
              have hb' := (w3 a hb).2
              rw [List.mem_cons] at ha
              rcases ha with rfl | ha
              · exact (F.br_sub hfr hnb hb').2 rfl
              · obtain ⟨_, u, u1, u2, u3⟩ := h6 a ha
                have := F.br_dis u2 hnb u3 hb'
                omega
            · rw [evs, List.mem_append] at hy
              rcases hy with hy | hy
              · obtain ⟨g1, u, g2, g3⟩ := h6 y hy
                exact ⟨g1, u, by omega, g3⟩
              · obtain ⟨g1, g2⟩ := w3 y hy
                exact ⟨g1, i, by omega, hnb, g2⟩
            · rw [w4 y hy, h7 y hy, evs]
              simp only [List.mem_cons, List.mem_append]
              constructor
              · rintro ((h | h | h) | h | h)
                · exact .inl h
                · exact .inr (.inl h)
                · exact .inr (.inr (.inl h))
                · exact .inr (.inr (.inr (.inl h)))
                · exact .inr (.inr (.inr (.inr h)))
              · rintro (h | h | h | h | h)
                · exact .inl (.inl h)
                · exact .inl (.inr (.inl h))
                · exact .inl (.inr (.inr h))
                · exact .inr (.inl h)
                · exact .inr (.inr h)
          · rw [decide_eq_false hin]
            simp only [Bool.not_false, Option.bind_some, cond_true]
            exact hskip
      · simp only [show ¬ ((i : Int) < (n : Int)) from by omega, decide_false, cond_false]
        exact ⟨_, rfl, f, sn, rfl, hfin h4 h5 h6 h7⟩
    · subst h1
      exact ⟨f, seen', rfl, h2⟩
end
structure TreeEs (n : Int) (es : List Ed) : Prop where
  rg : ∀ e, e ∈ es → 0 ≤ e.1 ∧ e.1 < e.2 ∧ e.2 < n
  un : ∀ e e', e ∈ es → e' ∈ es → e.2 = e'.2 → e.1 = e'.1
theorem TreeEs.fo {n : Nat} {es : List Ed} (h : TreeEs n es) : Fo n es (fun a b => (a, b) ∈ es) Int.toNat where
  rg := fun {a b} hab => by
    have := h.rg _ hab
    simp only at this
    omega
  ad := fun u v => by
    by_cases hvu : v < u
    · rw [if_pos hvu]
      constructor
      · exact .inr
      · rintro (h1 | h1)
        · have := h.rg _ h1
          simp only at this; omega
        · exact h1
    · rw [if_neg hvu]
      constructor
      · exact .inl
      · rintro (h1 | h1)
        · exact h1
        · have := h.rg _ h1
          simp only at this; omega
  un := fun {a a' b} h1 h2 => h.un _ _ h1 h2 rfl
  up := fun {a b} hab => by
    have := h.rg _ hab
    simp only at this
    omega
theorem h_sl06Tree (c : Cur) (n : Nat) (hc : curOk c) (h1 : 1 ≤ n) (h2 : n ≤ 12) : ∃ es c', g_sl06Tree (c, (n : Int)) = some (es, c') ∧ curOk c' ∧ TreeEs n es ∧ es.length ≤ 12 := by
  have hm : maxLen = 9223372036854775807 := by decide
  show ∃ es c', f_sl06Tree BIG _ = _ ∧ _
  rw [e_sl06Tree]
  refine loop_bind (P := fun o => ∃ es c', o = some (es, c') ∧ curOk c' ∧ TreeEs n es ∧ es.length ≤ 12)
    (fun (x : Cur × List Ed × Int) => ∃ i : Nat, x.2.2 = i ∧ (1 ≤ i ∧ i ≤ n) ∧ curOk x.1 ∧ TreeEs i x.2.1 ∧ x.2.1.length ≤ i) (fun x => n - x.2.2.toNat) (fun _ (b : Cur × List Ed) => curOk b.1 ∧ TreeEs n b.2 ∧ b.2.length ≤ 12) (by simp [BIG]; omega)
    ⟨1, rfl, ⟨by omega, h1⟩, hc, ⟨by simp, by simp⟩, by simp⟩ (fun self x hx hs => ?_) (fun b hb => ⟨_, _, rfl, hb⟩)
  obtain ⟨c, es, v⟩ := x
  obtain ⟨i, g1, g2, g3, g4, g5⟩ := hx
  simp only at g1 g2 g3 g4 g5 hs ⊢
  subst g1
  by_cases hi : i < n
  · simp only [show ((i : Int) < (n : Int)) from by omega, decide_true, cond_true]
    obtain ⟨b, c1, k1, o1⟩ := h_sl01Once c 6 g3 (by omega)
    rw [k1, Option.bind_some]
    cases b with
    | true =>
      simp only [Bool.not_true, cond_false, Option.bind_some]
      rw [wr1 (by omega)]
      exact hs _ ⟨i + 1, rfl, ⟨by omega, by omega⟩, o1, ⟨fun e he => by have := g4.rg e he; omega, g4.un⟩, by simp only; omega⟩ (by simp; omega)
    | false =>
      obtain ⟨r, c2, k2, o2, r1, r2, r3⟩ := h_sl01Below c1 (i : Int) o1 (by omega)
      simp only [Bool.not_false, cond_true, Option.bind_some]
      rw [k2, Option.bind_some]
      simp only
      rw [h_sl05Put _ _ (by omega), Option.bind_some, Option.bind_some, wr1 (by omega)]
      have hil := ins_le es (r, (i : Int))
      have hri := r2 (by omega)
      refine hs _ ⟨i + 1, rfl, ⟨by omega, by omega⟩, o2, ⟨fun e he => ?_, fun e e' he he' hee => ?_⟩, by simp only; omega⟩ (by simp; omega)
      · rcases ins_mem.1 he with rfl | he
        · simp only; omega
        · have := g4.rg e he; omega
      · rcases ins_mem.1 he with rfl | he
        · rcases ins_mem.1 he' with rfl | he'
          · rfl
          · have := g4.rg e' he'
            simp only at hee; omega
        · rcases ins_mem.1 he' with rfl | he'
          · have := g4.rg e he
            simp only at hee; omega
          · exact g4.un e e' he he' hee
  · simp only [show ¬ ((i : Int) < (n : Int)) from by omega, decide_false, cond_false]
    have : i = n := by omega
    subst this
    exact ⟨_, rfl, g3, g4, by simp only; omega⟩
theorem h_sTourOf {n : Nat} {es : List Ed} {pa : Int → Int → Prop} {rk : Int → Nat} (F : Fo n es pa rk) (h1 : 1 ≤ n) (h2 : n ≤ 12) (hes : es.length ≤ 1048576) (hE : ∀ e, e ∈ es → edB n e = true) (r : Int) (hr : 0 ≤ r ∧ r < n) :
    ∃ f, g_sTourOf ((n : Int), es, r) = some ((tr r f, true), ()) ∧ (r :: f.vs).Nodup ∧ ∀ x, x ∈ r :: f.vs → 0 ≤ x ∧ x < n := by
  have hm : maxLen = 9223372036854775807 := by decide
  obtain ⟨f, sn, e1, w1, w2, w3, w4⟩ := w_sl06Walk F h2 hes 64 r (-1) (List.replicate n false) [] (by simp) hr (.inl rfl) (fun x hx _ => by
    rw [gD (List.getElem?_replicate_of_lt hx)]) (by simp) (by simp) (by simp; omega)
  refine ⟨f, ?_, w2, fun x hx => (w3 x hx).1⟩
  show f_sTourOf BIG _ = _
  rw [e_sTourOf, h_sl01In', show inB (n : Int) 1 12 = true from inB_t.2 (by omega), Option.bind_some]
  simp only [Bool.not_true, cond_false]
  rw [wr (n := (n : Int) - 1) (by omega) (by omega), h_sl01In', show inB r 0 ((n : Int) - 1) = true from inB_t.2 (by omega), Option.bind_some, Option.bind_some]
  simp only [Bool.not_true, cond_false]
  rw [hiLoop es (by omega) (fun y => !edB n y) ([], false) (fun self i y hy => ?_) (fun self => by simp)]
  · have : es.any (fun y => !edB n y) = false := by
      rw [List.any_eq_false]
      intro y hy
      rw [hE y hy]; simp
    rw [this]
    simp only [Bool.false_eq_true, if_false, Option.bind_some]
    rw [decide_eq_true (by omega), cond_true, decide_eq_true (by omega), cond_true, Int.toNat_natCast, e1]
    rfl
  · have hi := (List.getElem?_eq_some_iff.1 hy).1
    simp only [show ((i : Int) < (es.length : Int)) from by omega, decide_true, cond_true]
    rw [bnd_nat hi, hy, Option.bind_some, h_sEdgeOk, Option.bind_some, wr1 (by omega)]
    cases edB n y <;> rfl
theorem TreeEs.ed {n : Nat} {es : List Ed} (h : TreeEs n es) (h1 : 1 ≤ n) (h2 : n ≤ 12) : ∀ e, e ∈ es → edB n e = true := by
  intro e he
  have := h.rg e he
  unfold edB
  simp only [Bool.and_eq_true, inB_t, decide_eq_true_eq]
  omega
theorem h_sl06Tour (c : Cur) (hc : curOk c) : ∃ v f c', g_sl06Tour c = some (tr v f, c') ∧ curOk c' ∧ TrOk v f := by
  have hm : maxLen = 9223372036854775807 := by decide
  show ∃ v f c', f_sl06Tour BIG _ = _ ∧ _
  rw [e_sl06Tour]
  obtain ⟨r, c1, k1, o1, r1, r2, _⟩ := h_sl01Below c 12 hc (by omega)
  have := r2 (by omega)
  rw [k1, Option.bind_some]
  simp only
  obtain ⟨m, rfl⟩ : ∃ m : Nat, r = (m : Int) := ⟨r.toNat, by omega⟩
  rw [wr (n := (1 : Int) + (m : Int)) (by omega) (by omega), show (1 : Int) + (m : Int) = ((m + 1 : Nat) : Int) from by omega]
  obtain ⟨es, c2, k2, o2, t1, t2⟩ := h_sl06Tree c1 (m + 1) o1 (by omega) (by omega)
  rw [k2, Option.bind_some]
  obtain ⟨q, c3, k3, o3, q1, q2, _⟩ := h_sl01Below c2 ((m + 1 : Nat) : Int) o2 (by omega)
  have hq := q2 (by omega)
  simp only
  rw [k3, Option.bind_some]
  obtain ⟨f, e1, n1, n2⟩ := h_sTourOf t1.fo (by omega) (by omega) (by omega) (t1.ed (by omega) (by omega)) q ⟨q1, hq⟩
  simp only
  rw [e1, Option.bind_some]
  exact ⟨q, f, c3, rfl, o3, n1, fun x hx => by have := n2 x hx; omega⟩
theorem h_sDrawRightTour (a : List Int) (ha : a.length ≤ 1048576) : ∃ v f x, g_sDrawRightTour a = some ((tr v f, x), ()) ∧ TrOk v f ∧ x ∈ tr v f := by
  show ∃ v f x, f_sDrawRightTour BIG _ = _ ∧ _
  rw [e_sDrawRightTour]
  obtain ⟨c, k0, o0⟩ := h_sl01New a ha
  obtain ⟨v, f, c1, k1, o1, ht⟩ := h_sl06Tour c o0
  have hl := tr_len v f
  have hl2 := ht.len
  obtain ⟨r, c2, k2, o2, r1, r2, _⟩ := h_sl01Below c1 ((tr v f).length : Int) o1 (by omega)
  have hr := r2 (by omega)
  have hrl : r.toNat < (tr v f).length := by omega
  rw [k0, Option.bind_some, k1, Option.bind_some, k2, Option.bind_some, bnd_ok r1 (by omega), List.getElem?_eq_getElem hrl, Option.bind_some]
  exact ⟨v, f, _, rfl, ht, List.getElem_mem _⟩
theorem w_iTourOk {v : Int} {c : FT} (h : TrOk v c) : g_iTourOk (tr v c) = some (true, ()) := by
  have hm : maxLen = 9223372036854775807 := by decide
  have hl := h.len
  have hlen := tr_len v c
  have hsl := sg_len c v
  have hv := h.rg v (List.mem_cons_self ..)
  have e0 : (tr v c)[Int.toNat 0]? = some v := rfl
  have e1 : List.take ((tr v c).length - (Int.toNat (1 : Int))) (List.drop (Int.toNat (1 : Int)) (tr v c)) = c.sg v := by
    show List.take ((c.sg v).length + 1 - 1) (c.sg v) = c.sg v
    rw [Nat.add_sub_cancel, List.take_length]
  have b0 : ∀ {B : Type} {k : Nat → Option B}, bnd (tr v c).length 0 k = k (Int.toNat 0) := fun {B k} => bnd_ok (by omega) (by omega)
  show f_iTourOk BIG _ = _
  rw [e_iTourOk, h_iin', show inB ((tr v c).length : Int) 1 23 = true from inB_t.2 (by omega), b0, e0, Option.bind_some, Option.bind_some, h_iin', show inB v 0 11 = true from inB_t.2 hv]
  simp only [Option.bind_some, Bool.not_true, cond_false, b0, e0, e1]
  rw [decide_eq_true (by omega), cond_true, decide_eq_true (show Int.toNat (1 : Int) ≤ (tr v c).length ∧ (tr v c).length ≤ (tr v c).length from ⟨by rw [show Int.toNat 1 = 1 from rfl]; omega, Nat.le_refl _⟩), cond_true]
  rw [exitG (c.sg v) (by omega) (mk := fun (s : List Int × List Int) (j : Int) => ((s.1, s.2, j) : List Int × List Int × Int)) (I := fun j (s : List Int × List Int) => 1 ≤ s.1.length ∧ s.1.length ≤ j + 1 ∧ s.2.length ≤ j + 1) (st := tStep) (R := fun s => s.1) (b := false) (s0 := ([v], [v])) (by simp) (fun j s s' y hy ⟨k1, k2, k3⟩ hst => ?_) (fun self s j y hy ⟨k1, k2, k3⟩ => ?_) (fun self s hs => by simp)]
  · rw [h.run]
    rfl
  · unfold tStep at hst
    split at hst
    · rename_i hc
      cases hst
      simp only [List.length_take]; omega
    · split at hst
      · cases hst
        simp only [List.length_append, List.length_cons, List.length_nil]; omega
      · cases hst
  · obtain ⟨p, q⟩ := s
    simp only at k1 k2 k3
    have hj := (List.getElem?_eq_some_iff.1 hy).1
    simp only [show ((j : Int) < ((c.sg v).length : Int)) from by omega, decide_true, cond_true]
    rw [bnd_nat hj, hy, Option.bind_some]
    have hw1 : IntKind.wrap .i64 ((p.length : Int) - 1) = ((p.length - 1 : Nat) : Int) := by rw [wr (by omega) (by omega)]; omega
    have hpop : (bif decide ((1 : Int) < (p.length : Int)) then
          bnd p.length (IntKind.wrap .i64 ((p.length : Int) - (2 : Int))) fun n13 =>
          Option.bind p[n13]? fun y14 =>
          some (decide (y14 = y))
         else some false) = some (decide (1 < p.length ∧ p.getD (p.length - 2) 0 = y)) := by
      by_cases h1 : 1 < p.length
      · have hw2 : IntKind.wrap .i64 ((p.length : Int) - 2) = ((p.length - 2 : Nat) : Int) := by rw [wr (by omega) (by omega)]; omega
        rw [decide_eq_true (by omega), cond_true, hw2, bnd_nat (by omega), getD_at (by omega), Option.bind_some]
        simp [h1]
      · rw [decide_eq_false (by omega), cond_false, decide_eq_false (fun h => h1 h.1)]
    rw [hpop, Option.bind_some]
    unfold tStep
    by_cases hc : 1 < p.length ∧ p.getD (p.length - 2) 0 = y
    · simp only [decide_eq_true hc, cond_true, if_pos hc, hw1]
      rw [decide_eq_true (by omega), cond_true, Int.toNat_natCast, decide_eq_true (by omega), cond_true, Option.bind_some, Nat.sub_zero, List.drop_zero]
      simp only
      rw [wr1 (by omega)]
    · simp only [decide_eq_false hc, cond_false, if_neg hc]
      rw [h_iin', Option.bind_some]
      by_cases hy0 : 0 ≤ y ∧ y ≤ 11
      · rw [show inB y 0 11 = true from inB_t.2 hy0]
        simp only [cond_true]
        rw [h_ihasInt _ _ (by omega), Option.bind_some, Option.bind_some]
        by_cases hq : y ∈ q
        · simp only [decide_eq_true hq, Bool.not_true, cond_false, Option.bind_some]
          rw [if_neg (fun h => h.2 hq)]
        · simp only [decide_eq_false hq, Bool.not_false, cond_true]
          rw [if_pos ⟨hy0, hq⟩, decide_eq_true (by simp only [List.length_cons, List.length_nil]; omega), cond_true, decide_eq_true (by simp only [List.length_cons, List.length_nil]; omega), cond_true, Option.bind_some]
          simp only
          rw [wr1 (by omega)]
      · have : inB y 0 11 = false := by
          cases hb : inB y 0 11 with
          | false => rfl
          | true => exact absurd (inB_t.1 hb) hy0
        rw [this, if_neg (fun h => hy0 h.1)]
        simp only [cond_false, Option.bind_some]
theorem h_iplaceOf (l : List Int) (x : Int) (hl : l.length ≤ 1048576) : g_iplaceOf (l, x) = some (if l.findIdx (fun y => decide (y = x)) < l.length then (l.findIdx (fun y => decide (y = x)) : Int) else -1, ()) := by
  have hm : maxLen = 9223372036854775807 := by decide
  show f_iplaceOf BIG _ = _
  rw [e_iplaceOf, fiLoop l (by omega) (fun y => decide (y = x)) (fun self i y hy => ?_) (fun self => by simp), Option.bind_some]
  · by_cases h : l.findIdx (fun y => decide (y = x)) < l.length
    · rw [if_pos h, if_pos h]
    · rw [if_neg h, if_neg h]
  · have hi := (List.getElem?_eq_some_iff.1 hy).1
    simp only [show ((i : Int) < (l.length : Int)) from by omega, decide_true, cond_true]
    rw [bnd_nat hi, hy, Option.bind_some, wr1 (by omega)]
    by_cases h : y = x <;> simp [h]
theorem w_iReroot {v : Int} {c : FT} (h : TrOk v c) {x : Int} (hx : x ∈ tr v c) : ∃ k, k < (tr v c).length ∧ (tr v c).getD k 0 = x ∧ g_iReroot (tr v c, x) = some ((rotR (tr v c) k x, true), ()) := by
  have hm : maxLen = 9223372036854775807 := by decide
  have hl := h.len
  have hlen := tr_len v c
  have hk : (tr v c).findIdx (fun y => decide (y = x)) < (tr v c).length := List.findIdx_lt_length.2 ⟨x, hx, by simp⟩
  have hp := List.findIdx_getElem (w := hk)
  rw [decide_eq_true_eq] at hp
  refine ⟨_, hk, by rw [gD (List.getElem?_eq_getElem hk)]; exact hp, ?_⟩
  show f_iReroot BIG _ = _
  rw [e_iReroot, h_iplaceOf _ _ (by omega), if_pos hk, Option.bind_some, w_iTourOk h, Option.bind_some]
  generalize (tr v c).findIdx (fun y => decide (y = x)) = k at hk ⊢
  have hw : IntKind.wrap .i64 (((tr v c).length : Int) - 1) = (((tr v c).length - 1 : Nat) : Int) := by rw [wr (by omega) (by omega)]; omega
  simp only [Bool.not_true, cond_false, Option.bind_some, decide_eq_false (show ¬ ((k : Int) < 0) from by omega), hw, Int.toNat_natCast, decide_eq_true (show (0 : Int) ≤ (k : Int) from by omega), decide_eq_true (show (0 : Int) ≤ (((tr v c).length - 1 : Nat) : Int) from by omega), cond_true, Nat.sub_zero, List.drop_zero]
  rw [decide_eq_true (by omega), cond_true, w_icopyInts _ (by rw [List.length_take]; omega), Option.bind_some]
  simp only
  rw [decide_eq_true (by omega), cond_true, decide_eq_true (by simp only [List.length_take, List.length_drop]; omega), cond_true, decide_eq_true (by simp only [List.length_append, List.length_take, List.length_drop, List.length_cons, List.length_nil]; omega), cond_true]
  rfl
theorem w_iwithS (l : List Int) (x : Int) (hl : l.length ≤ 1000000) (hso : l.Pairwise (· < ·)) : ∃ l', g_iwith (l, x) = some (l', ()) ∧ (∀ y, y ∈ l' ↔ y = x ∨ y ∈ l) ∧ l'.length ≤ l.length + 1 ∧ l'.Pairwise (· < ·) := by
  have hm : maxLen = 9223372036854775807 := by decide
  have e : g_iwith (l, x) = f_iwith BIG (l, x) := rfl
  rw [e, e_iwith]
  refine loop_bind (P := fun o => ∃ l' : List Int, o = some (l', ()) ∧ (∀ y, y ∈ l' ↔ y = x ∨ y ∈ l) ∧ l'.length ≤ l.length + 1 ∧ l'.Pairwise (· < ·)) (fun (j : Int) => ∃ i : Nat, j = (i : Int) ∧ i ≤ l.length ∧ ∀ y, y ∈ l.take i → y < x) (fun j => l.length - j.toNat) (fun _ (b : Int) => ∃ i : Nat, b = (i : Int) ∧ i ≤ l.length ∧ (∀ y, y ∈ l.take i → y < x) ∧ ∀ (hi : i < l.length), x ≤ l[i]) (by simp [BIG]; omega) ⟨0, rfl, by omega, by simp⟩ (fun self j ⟨i, h1, h2, h3⟩ hs => ?_) (fun b ⟨i, h1, h2, h3, h4⟩ => ?_)
  · subst h1
    by_cases hi : i < l.length
    · simp only [show ((i : Int) < (l.length : Int)) from by omega, decide_true, cond_true]
      rw [bnd_nat hi, List.getElem?_eq_getElem hi, Option.bind_some, Option.bind_some, wr1 (by omega)]
      by_cases hlx : l[i] < x
      · rw [decide_eq_true hlx]
        refine hs _ ⟨i + 1, rfl, hi, fun y hy => ?_⟩ (by simp; omega)
        rw [List.take_succ_eq_append_getElem hi, List.mem_append, List.mem_singleton] at hy
        rcases hy with hy | rfl
        · exact h3 y hy
        · exact hlx
      · rw [decide_eq_false hlx]
        exact ⟨_, rfl, i, rfl, h2, h3, fun _ => by omega⟩
    · simp only [show ¬ ((i : Int) < (l.length : Int)) from by omega, decide_false, cond_false, Option.bind_some]
      exact ⟨_, rfl, i, rfl, h2, h3, fun hi' => absurd hi' hi⟩
  · subst h1
    have fin : (∀ hi : i < l.length, x < l[i]) → ∃ l', (bif decide (0 ≤ (i : Int)) then
   bif decide (0 ≤ (Int.toNat (i : Int)) ∧ (Int.toNat (i : Int)) ≤ l.length) then
    Option.bind (g_icopyInts (List.take ((Int.toNat (i : Int)) - 0) (List.drop 0 l))) fun r9 =>
    bif decide (r9.1.length + [x].length ≤ 4294967296) then
     bif decide (0 ≤ (i : Int)) then
      bif decide ((Int.toNat (i : Int)) ≤ l.length ∧ l.length ≤ l.length) then
       bif decide ((r9.1 ++ [x]).length + (List.take (l.length - (Int.toNat (i : Int))) (List.drop (Int.toNat (i : Int)) l)).length ≤ 4294967296) then
        some ((r9.1 ++ [x]) ++ (List.take (l.length - (Int.toNat (i : Int))) (List.drop (Int.toNat (i : Int)) l)), ())
       else none
      else none
     else none
    else none
   else none
  else none) = some (l', ()) ∧ (∀ y, y ∈ l' ↔ y = x ∨ y ∈ l) ∧ l'.length ≤ l.length + 1 ∧ l'.Pairwise (· < ·) := by
      intro hlt
      have e2 : List.take (l.length - (Int.toNat (i : Int))) (List.drop (Int.toNat (i : Int)) l) = l.drop i := by rw [Int.toNat_natCast]; exact List.take_of_length_le (by simp)
      have e3 : List.take ((Int.toNat (i : Int)) - 0) (List.drop 0 l) = l.take i := by simp
      have c1 : (l.take i).length ≤ 1048576 := by rw [List.length_take]; omega
      have c2 : decide ((l.take i).length + [x].length ≤ 4294967296) = true := decide_eq_true (by rw [List.length_take, List.length_singleton]; omega)
      have c3 : decide ((l.take i ++ [x]).length + (l.drop i).length ≤ 4294967296) = true := decide_eq_true (by rw [List.length_append, List.length_take, List.length_drop, List.length_singleton]; omega)
      have c4 : decide ((0 : Int) ≤ (i : Int)) = true := decide_eq_true (by omega)
      have c5 : decide (0 ≤ Int.toNat (i : Int) ∧ Int.toNat (i : Int) ≤ l.length) = true := decide_eq_true (by omega)
      have c6 : decide (Int.toNat (i : Int) ≤ l.length ∧ l.length ≤ l.length) = true := decide_eq_true (by omega)
      rw [e2, e3, c4, c5, c6, w_icopyInts _ c1]
      simp only [cond_true, Option.bind_some]
      rw [c2, c3]
      refine ⟨_, rfl, fun y => ?_, ?_, ?_⟩
      · have ht : y ∈ l ↔ y ∈ l.take i ∨ y ∈ l.drop i := by
          conv => lhs; rw [← List.take_append_drop i l]
          exact List.mem_append
        rw [List.mem_append, List.mem_append, List.mem_singleton, ht]
        constructor
        · rintro ((h | h) | h)
          · exact .inr (.inl h)
          · exact .inl h
          · exact .inr (.inr h)
        · rintro (h | h | h)
          · exact .inl (.inr h)
          · exact .inl (.inl h)
          · exact .inr h
      · simp only [List.length_append, List.length_take, List.length_drop, List.length_cons, List.length_nil]; omega
      · have hbig : ∀ y, y ∈ l.drop i → x < y := by
          intro y hy
          by_cases hi : i < l.length
          · rw [List.drop_eq_getElem_cons hi, List.mem_cons] at hy
            have h5 := hlt hi
            rcases hy with rfl | hy
            · exact h5
            · have h6 : (l.drop i).Pairwise (· < ·) := hso.sublist (List.drop_sublist _ _)
              rw [List.drop_eq_getElem_cons hi, List.pairwise_cons] at h6
              have := h6.1 y hy
              omega
          · rw [List.drop_eq_nil_of_le (by omega)] at hy; cases hy
        rw [List.pairwise_append, List.pairwise_append]
        refine ⟨⟨hso.sublist (List.take_sublist _ _), by simp, fun a ha b hb => ?_⟩, hso.sublist (List.drop_sublist _ _), fun a ha b hb => ?_⟩
        · rw [List.mem_singleton] at hb; subst hb; exact h3 a ha
        · rw [List.mem_append, List.mem_singleton] at ha
          have := hbig b hb
          rcases ha with ha | rfl
          · have := h3 a ha; omega
          · exact this
    by_cases hi : i < l.length
    · simp only [show ((i : Int) < (l.length : Int)) from by omega, decide_true, cond_true]
      rw [bnd_nat hi, List.getElem?_eq_getElem hi, Option.bind_some, Option.bind_some]
      by_cases hx : l[i] = x
      · rw [decide_eq_true hx, cond_true]
        refine ⟨l, rfl, fun y => ⟨fun h => .inr h, fun h => ?_⟩, by omega, hso⟩
        rcases h with rfl | h
        · rw [← hx]; exact List.getElem_mem hi
        · exact h
      · rw [decide_eq_false hx, cond_false]; exact fin (fun hi => by have := h4 hi; omega)
    · simp only [show ¬ ((i : Int) < (l.length : Int)) from by omega, decide_false, cond_false, Option.bind_some]
      exact fin (fun hi' => absurd hi' hi)
theorem sorted_eq : ∀ {a b : List Int}, a.Pairwise (· < ·) → b.Pairwise (· < ·) → (∀ x, x ∈ a ↔ x ∈ b) → a = b
  | [], [], _, _, _ => rfl
  | [], y :: b, _, _, h => by have := (h y).2 (List.mem_cons_self ..); cases this
  | x :: a, [], _, _, h => by have := (h x).1 (List.mem_cons_self ..); cases this
  | x :: a, y :: b, ha, hb, h => by
    rw [List.pairwise_cons] at ha hb
    have hxy : x = y := by
      have h1 := (h x).1 (List.mem_cons_self ..)
      have h2 := (h y).2 (List.mem_cons_self ..)
      rw [List.mem_cons] at h1 h2
      rcases h1 with h1 | h1
      · exact h1
      · rcases h2 with h2 | h2
        · exact h2.symm
        · have := ha.1 y h2
          have := hb.1 x h1
          omega
    subst hxy
    rw [sorted_eq ha.2 hb.2 (fun z => ?_)]
    constructor
    · intro hz
      have h1 := (h z).1 (List.mem_cons_of_mem _ hz)
      rw [List.mem_cons] at h1
      rcases h1 with rfl | h1
      · have := ha.1 z hz; omega
      · exact h1
    · intro hz
      have h1 := (h z).2 (List.mem_cons_of_mem _ hz)
      rw [List.mem_cons] at h1
      rcases h1 with rfl | h1
      · have := hb.1 z hz; omega
      · exact h1
theorem w_iVertsOf (l : List Int) (hl : l.length ≤ 1000) : ∃ L, g_iVertsOf l = some (L, ()) ∧ L.Pairwise (· < ·) ∧ (∀ x, x ∈ L ↔ x ∈ l) ∧ L.length ≤ l.length := by
  have hm : maxLen = 9223372036854775807 := by decide
  show ∃ L, f_iVertsOf BIG _ = _ ∧ _
  rw [e_iVertsOf]
  refine loop_bind (P := fun o => ∃ L : List Int, o = some (L, ()) ∧ L.Pairwise (· < ·) ∧ (∀ x, x ∈ L ↔ x ∈ l) ∧ L.length ≤ l.length) (fun (s : List Int × Int) => ∃ i : Nat, s.2 = i ∧ i ≤ l.length ∧ s.1.Pairwise (· < ·) ∧ (∀ x, x ∈ s.1 ↔ x ∈ l.take i) ∧ s.1.length ≤ i) (fun s => l.length - s.2.toNat) (fun _ (L : List Int) => L.Pairwise (· < ·) ∧ (∀ x, x ∈ L ↔ x ∈ l) ∧ L.length ≤ l.length) (by simp [BIG]; omega) ⟨0, rfl, by omega, by simp, by simp, by simp⟩ (fun self s hx hs => ?_) (fun b hb => ⟨_, rfl, hb⟩)
  obtain ⟨s, j⟩ := s
  obtain ⟨i, h1, h2, h3, h4, h5⟩ := hx
  simp only at h1 h2 h3 h4 h5 hs ⊢
  subst h1
  by_cases hi : i < l.length
  · simp only [show ((i : Int) < (l.length : Int)) from by omega, decide_true, cond_true]
    obtain ⟨L, k1, k2, k3, k4⟩ := w_iwithS s l[i] (by omega) h3
    rw [bnd_nat hi, List.getElem?_eq_getElem hi, Option.bind_some, k1, Option.bind_some, wr1 (by omega)]
    refine hs _ ⟨i + 1, rfl, hi, k4, fun x => ?_, by simp only; omega⟩ (by simp; omega)
    rw [k2, h4, List.take_succ_eq_append_getElem hi, List.mem_append, List.mem_singleton]
    exact Or.comm
  · simp only [show ¬ ((i : Int) < (l.length : Int)) from by omega, decide_false, cond_false]
    have : i = l.length := by omega
    subst this
    rw [List.take_length] at h4
    exact ⟨_, rfl, h3, h4, h5⟩
theorem tr_closed (v : Int) (c : FT) : (tr v c)[(tr v c).length - 1]? = (tr v c)[0]? := by
  obtain ⟨L, hL⟩ := tr_last v c
  have h0 : (tr v c)[0]? = some v := rfl
  rw [h0, hL]
  simp
theorem bnd0 {l : List Int} {B : Type} {k : Nat → Option B} (h : 0 < l.length) : bnd l.length 0 k = k (Int.toNat 0) := bnd_ok (by omega) (by omega)
theorem rot_head {v : Int} {c : FT} {k : Nat} {x : Int} (hk : k < (tr v c).length) (hx : (tr v c).getD k 0 = x) : (rotR (tr v c) k x)[0]? = some x ∧ (rotR (tr v c) k x).length = (tr v c).length := by
  rw [← hx, rotR_eq hk]
  constructor
  · rw [List.getElem?_append_left (by rw [List.length_drop]; omega), List.getElem?_drop, Nat.add_zero, List.getElem?_eq_getElem hk, gD (List.getElem?_eq_getElem hk)]
  · simp only [List.length_append, List.length_drop, List.length_take]; omega
/-- What a tour from another place on is. -/
theorem rot_tr {v : Int} {c : FT} (h : TrOk v c) {k : Nat} {x : Int} (hk : k < (tr v c).length) (hx : (tr v c).getD k 0 = x) :
    ∃ d, rotR (tr v c) k x = tr x d ∧ TrOk x d ∧ ∀ y, y ∈ tr x d ↔ y ∈ tr v c := by
  obtain ⟨y, d, e, p⟩ := rots k v c (by omega)
  have h1 := rot_head hk hx
  have h2 : rotR (tr v c) k x = tr y d := by rw [← hx, rotR_eq hk, e]
  rw [h2] at h1
  have h3 : y = x := by
    have : (tr y d)[0]? = some y := rfl
    rw [this] at h1
    simpa using h1.1
  subst h3
  exact ⟨d, h2, ⟨p.nodup_iff.2 h.nd, fun z hz => h.rg z (p.mem_iff.1 hz)⟩, fun z => by rw [tr_mem, tr_mem]; exact p.mem_iff⟩
theorem h_verts_same {a b : List Int} (ha : a.length ≤ 1000) (hb : b.length ≤ 1000) (h : ∀ x, x ∈ a ↔ x ∈ b) : ∃ L, g_iVertsOf a = some (L, ()) ∧ g_iVertsOf b = some (L, ()) ∧ L.length ≤ 1000 := by
  obtain ⟨L1, m1, s1, i1, l1⟩ := w_iVertsOf a ha
  obtain ⟨L2, m2, s2, i2, l2⟩ := w_iVertsOf b hb
  have : L1 = L2 := sorted_eq s1 s2 fun x => by rw [i1, i2, h]
  subst this
  exact ⟨L1, m1, m2, by omega⟩
/-- A tour at one of its edges: what is below it, and the rest. -/
structure SpF (r : Int) (F : FT) (k : Nat) (X : List Int) (p w : Int) (C : FT) (Y : List Int) (F' : FT) : Prop where
  e1 : tr r F = X ++ p :: (tr w C ++ p :: Y)
  e2 : tr r F' = X ++ p :: Y
  pm : F.vs.Perm ((w :: C.vs) ++ F'.vs)
  at' : k = X.length ∨ k = X.length + (tr w C).length
theorem split_at : ∀ (F : FT) (r : Int) (k : Nat), k + 1 < (tr r F).length → ∃ X p w C Y F', SpF r F k X p w C Y F'
  | .nil, r, k, h => by simp [tr, FT.sg] at h
  | .nd w c s, r, k, h => by
    have e : tr r (.nd w c s) = r :: (tr w c ++ r :: s.sg r) := by simp [tr, FT.sg]
    have hl : (tr r (.nd w c s)).length = 1 + (tr w c).length + (tr r s).length := by
      rw [e]; simp only [List.length_cons, List.length_append, tr]; omega
    have hw : 1 ≤ (tr w c).length := by simp [tr]
    by_cases h0 : k = 0 ∨ k = (tr w c).length
    · refine ⟨[], r, w, c, s.sg r, s, e, rfl, .refl _, ?_⟩
      simpa using h0
    · by_cases h1 : k < (tr w c).length
      · obtain ⟨X, p, w', C, Y, F', g1, g2, g3, g4⟩ := split_at c w (k - 1) (by omega)
        refine ⟨r :: X, p, w', C, Y ++ r :: s.sg r, .nd w F' s, ?_, ?_, ?_, ?_⟩
        · rw [e, g1]; simp
        · have : tr r (.nd w F' s) = r :: (tr w F' ++ r :: s.sg r) := by simp [tr, FT.sg]
          rw [this, g2]; simp
        · simp only [FT.vs]
          have h2 : (w :: (c.vs ++ s.vs)).Perm (w :: (((w' :: C.vs) ++ F'.vs) ++ s.vs)) := List.Perm.cons _ (List.Perm.append_right _ g3)
          refine h2.trans ?_
          rw [List.append_assoc]
          exact List.perm_middle.symm
        · simp only [List.length_cons]; omega
      · obtain ⟨X, p, w', C, Y, F', g1, g2, g3, g4⟩ := split_at s r (k - 1 - (tr w c).length) (by omega)
        refine ⟨(r :: tr w c) ++ X, p, w', C, Y, .nd w c F', ?_, ?_, ?_, ?_⟩
        · rw [e, show r :: (tr w c ++ r :: s.sg r) = (r :: tr w c) ++ tr r s from by simp [tr], g1]; simp
        · have : tr r (.nd w c F') = (r :: tr w c) ++ tr r F' := by simp [tr, FT.sg]
          rw [this, g2]; simp
        · simp only [FT.vs]
          have h2 : (w :: (c.vs ++ s.vs)).Perm (w :: (c.vs ++ ((w' :: C.vs) ++ F'.vs))) := List.Perm.cons _ (List.Perm.append_left _ g3)
          refine h2.trans ?_
          have h3 : (w :: (c.vs ++ ((w' :: C.vs) ++ F'.vs))) = (w :: c.vs) ++ ((w' :: C.vs) ++ F'.vs) := rfl
          have h4 : (w' :: C.vs) ++ (w :: (c.vs ++ F'.vs)) = (w' :: C.vs) ++ ((w :: c.vs) ++ F'.vs) := rfl
          rw [h3, h4, ← List.append_assoc, ← List.append_assoc]
          exact List.Perm.append_right _ List.perm_append_comm
        · simp only [List.length_append, List.length_cons]; omega
/-- A tree is hung in at a place of a tour. -/
theorem insert_at (w : Int) (D : FT) : ∀ (F : FT) (r : Int) (m : Nat), m < (tr r F).length → ∃ F', (tr r F).take (m + 1) ++ tr w D ++ (tr r F).drop m = tr r F' ∧ F'.vs.Perm ((w :: D.vs) ++ F.vs)
  | .nil, r, m, h => by
    have : m = 0 := by simp [tr, FT.sg] at h; omega
    subst this
    exact ⟨.nd w D .nil, by simp [tr, FT.sg], by simp [FT.vs]⟩
  | .nd v c s, r, m, h => by
    have e : tr r (.nd v c s) = r :: (tr v c ++ tr r s) := by simp [tr, FT.sg]
    have hl : (tr r (.nd v c s)).length = 1 + (tr v c).length + (tr r s).length := by
      rw [e]; simp only [List.length_cons, List.length_append]; omega
    by_cases h0 : m = 0
    · subst h0
      exact ⟨.nd w D (.nd v c s), by simp [tr, FT.sg], by simp [FT.vs]⟩
    · obtain ⟨m, rfl⟩ : ∃ m', m = m' + 1 := ⟨m - 1, by omega⟩
      by_cases h1 : m < (tr v c).length
      · obtain ⟨F', g1, g2⟩ := insert_at w D c v m h1
        refine ⟨.nd v F' s, ?_, ?_⟩
        · have e' : tr r (.nd v F' s) = r :: (tr v F' ++ tr r s) := by simp [tr, FT.sg]
          rw [e, e', ← g1, List.take_succ_cons, List.drop_succ_cons, List.take_append_of_le_length (by omega), List.drop_append_of_le_length (by omega)]
          simp
        · simp only [FT.vs]
          have h2 : (v :: (F'.vs ++ s.vs)).Perm (v :: (((w :: D.vs) ++ c.vs) ++ s.vs)) := List.Perm.cons _ (List.Perm.append_right _ g2)
          refine h2.trans ?_
          rw [List.append_assoc]
          exact List.perm_middle.symm
      · obtain ⟨F', g1, g2⟩ := insert_at w D s r (m - (tr v c).length) (by omega)
        refine ⟨.nd v c F', ?_, ?_⟩
        · have e' : tr r (.nd v c F') = r :: (tr v c ++ tr r F') := by simp [tr, FT.sg]
          have t1 : (tr v c ++ tr r s).take (m + 1) = tr v c ++ (tr r s).take (m - (tr v c).length + 1) := by
            rw [List.take_append, List.take_of_length_le (by omega), show m + 1 - (tr v c).length = m - (tr v c).length + 1 from by omega]
          have t2 : (tr v c ++ tr r s).drop m = (tr r s).drop (m - (tr v c).length) := by
            rw [List.drop_append, List.drop_eq_nil_of_le (by omega), List.nil_append]
          rw [e, e', ← g1, List.take_succ_cons, List.drop_succ_cons, t1, t2]
          simp
        · simp only [FT.vs]
          have h2 : (v :: (c.vs ++ F'.vs)).Perm (v :: (c.vs ++ ((w :: D.vs) ++ s.vs))) := List.Perm.cons _ (List.Perm.append_left _ g2)
          refine h2.trans ?_
          have h3 : (v :: (c.vs ++ ((w :: D.vs) ++ s.vs))) = (v :: c.vs) ++ ((w :: D.vs) ++ s.vs) := rfl
          have h4 : (w :: D.vs) ++ (v :: (c.vs ++ s.vs)) = (w :: D.vs) ++ ((v :: c.vs) ++ s.vs) := rfl
          rw [h3, h4, ← List.append_assoc, ← List.append_assoc]
          exact List.Perm.append_right _ List.perm_append_comm
section
variable {r : Int} {F : FT} {k : Nat} {X : List Int} {p w : Int} {C : FT} {Y : List Int} {F' : FT}
theorem SpF.perm (h : SpF r F k X p w C Y F') : (r :: F.vs).Perm ((w :: C.vs) ++ (r :: F'.vs)) := (List.Perm.cons _ h.pm).trans List.perm_middle.symm
theorem SpF.nd (h : SpF r F k X p w C Y F') (ht : TrOk r F) : TrOk w C ∧ TrOk r F' ∧ ∀ x, x ∈ tr w C → x ∉ tr r F' := by
  have hn := h.perm.nodup_iff.1 ht.nd
  rw [List.nodup_append] at hn
  obtain ⟨n1, n2, n3⟩ := hn
  exact ⟨⟨n1, fun x hx => ht.rg x (h.perm.mem_iff.2 (List.mem_append_left _ hx))⟩, ⟨n2, fun x hx => ht.rg x (h.perm.mem_iff.2 (List.mem_append_right _ hx))⟩,
    fun x hx hx' => n3 x ((tr_mem _ _ _).1 hx) x ((tr_mem _ _ _).1 hx') rfl⟩
theorem SpF.len (h : SpF r F k X p w C Y F') : (tr r F).length = X.length + (tr w C).length + Y.length + 2 ∧ (tr r F').length = X.length + Y.length + 1 := by
  rw [h.e1, h.e2]
  simp only [List.length_append, List.length_cons]
  omega
theorem SpF.out1 (h : SpF r F k X p w C Y F') {m : Nat} (hm : m < X.length) : ∃ x, (tr r F)[m]? = some x ∧ x ∈ tr r F' := by
  refine ⟨X[m], ?_, ?_⟩
  · rw [h.e1, List.getElem?_append_left hm, List.getElem?_eq_getElem hm]
  · rw [h.e2]; exact List.mem_append_left _ (List.getElem_mem _)
theorem SpF.atD (h : SpF r F k X p w C Y F') : (tr r F)[X.length]? = some p := by
  rw [h.e1, List.getElem?_append_right (Nat.le_refl _), Nat.sub_self]; rfl
theorem SpF.inn (h : SpF r F k X p w C Y F') {m : Nat} (hm : m < (tr w C).length) : (tr r F)[X.length + 1 + m]? = (tr w C)[m]? := by
  rw [h.e1, List.getElem?_append_right (by omega), show X.length + 1 + m - X.length = m + 1 from by omega, List.getElem?_cons_succ, List.getElem?_append_left hm]
theorem SpF.atU (h : SpF r F k X p w C Y F') : (tr r F)[X.length + (tr w C).length + 1]? = some p := by
  rw [h.e1, List.getElem?_append_right (by omega), show X.length + (tr w C).length + 1 - X.length = (tr w C).length + 1 from by omega, List.getElem?_cons_succ, List.getElem?_append_right (Nat.le_refl _), Nat.sub_self]; rfl
theorem SpF.out2 (h : SpF r F k X p w C Y F') {m : Nat} (hm : m < Y.length) : ∃ x, (tr r F)[X.length + (tr w C).length + 2 + m]? = some x ∧ x ∈ tr r F' := by
  refine ⟨Y[m], ?_, ?_⟩
  · rw [h.e1, List.getElem?_append_right (by omega), show X.length + (tr w C).length + 2 + m - X.length = ((tr w C).length + 1 + m) + 1 from by omega, List.getElem?_cons_succ, List.getElem?_append_right (by omega), show (tr w C).length + 1 + m - (tr w C).length = m + 1 from by omega, List.getElem?_cons_succ, List.getElem?_eq_getElem hm]
  · rw [h.e2]; exact List.mem_append_right _ (List.mem_cons_of_mem _ (List.getElem_mem _))
/-- In or out at a place. -/
theorem SpF.side (h : SpF r F k X p w C Y F') {m : Nat} (hm : m < (tr r F).length) : ∃ x, (tr r F)[m]? = some x ∧ ((X.length < m ∧ m ≤ X.length + (tr w C).length → x ∈ tr w C) ∧ (¬ (X.length < m ∧ m ≤ X.length + (tr w C).length) → x ∈ tr r F')) := by
  have hl := h.len.1
  have hp : p ∈ tr r F' := by rw [h.e2]; simp
  by_cases h1 : m < X.length
  · obtain ⟨x, a, b⟩ := h.out1 h1
    exact ⟨x, a, fun g => by omega, fun _ => b⟩
  by_cases h2 : m = X.length
  · subst h2; exact ⟨p, h.atD, fun g => by omega, fun _ => hp⟩
  by_cases h3 : m ≤ X.length + (tr w C).length
  · have hlt : m - X.length - 1 < (tr w C).length := by omega
    have := h.inn hlt
    rw [show X.length + 1 + (m - X.length - 1) = m from by omega, List.getElem?_eq_getElem hlt] at this
    exact ⟨_, this, fun _ => List.getElem_mem _, fun g => by omega⟩
  by_cases h4 : m = X.length + (tr w C).length + 1
  · subst h4; exact ⟨p, h.atU, fun g => by omega, fun _ => hp⟩
  · obtain ⟨x, a, b⟩ := h.out2 (m := m - (X.length + (tr w C).length + 2)) (by omega)
    rw [show X.length + (tr w C).length + 2 + (m - (X.length + (tr w C).length + 2)) = m from by omega] at a
    exact ⟨x, a, fun g => by omega, fun _ => b⟩
/-- Where the edge is gone along. -/
theorem SpF.pair (h : SpF r F k X p w C Y F') (ht : TrOk r F) {m : Nat} (hm : m + 1 < (tr r F).length) {x y : Int} (hx : (tr r F)[m]? = some x) (hy : (tr r F)[m + 1]? = some y) :
    ((x = p ∧ y = w) ∨ (x = w ∧ y = p)) ↔ (m = X.length ∨ m = X.length + (tr w C).length) := by
  obtain ⟨hC, hF, hd⟩ := h.nd ht
  have hl := h.len.1
  have hw : w ∈ tr w C := List.mem_cons_self ..
  have hp : p ∈ tr r F' := by rw [h.e2]; simp
  have hwl : 1 ≤ (tr w C).length := by simp [tr]
  constructor
  · intro hxy
    obtain ⟨x', a1, a2, a3⟩ := h.side (m := m) (by omega)
    obtain ⟨y', b1, b2, b3⟩ := h.side (m := m + 1) hm
    rw [hx] at a1; cases a1
    rw [hy] at b1; cases b1
    rcases hxy with ⟨rfl, rfl⟩ | ⟨rfl, rfl⟩
    · have c1 : ¬ (X.length < m ∧ m ≤ X.length + (tr y C).length) := fun g => hd _ (a2 g) hp
      have c2 : (X.length < m + 1 ∧ m + 1 ≤ X.length + (tr y C).length) := by
        refine Decidable.byContradiction fun g => hd _ hw (b3 g)
      omega
    · have c1 : (X.length < m ∧ m ≤ X.length + (tr x C).length) := by
        refine Decidable.byContradiction fun g => hd _ hw (a3 g)
      have c2 : ¬ (X.length < m + 1 ∧ m + 1 ≤ X.length + (tr x C).length) := fun g => hd _ (b2 g) hp
      omega
  · rintro (rfl | rfl)
    · left
      rw [h.atD] at hx
      have := h.inn (m := 0) (by omega)
      rw [Nat.add_zero, hy] at this
      have h0 : (tr w C)[0]? = some w := rfl
      rw [h0] at this
      simp only [Option.some.injEq] at hx this
      exact ⟨hx.symm, this⟩
    · right
      rw [h.atU] at hy
      have := h.inn (m := (tr w C).length - 1) (by omega)
      rw [show X.length + 1 + ((tr w C).length - 1) = X.length + (tr w C).length from by omega, hx, tr_closed] at this
      have h0 : (tr w C)[0]? = some w := rfl
      rw [h0] at this
      simp only [Option.some.injEq] at hy this
      exact ⟨this, hy.symm⟩
end
theorem or_bif (a b c d : Bool) : (bif a then (bif b then some true else bif c then some d else some false) else bif c then some d else some false) = some ((a && b) || (c && d)) := by
  cases a <;> cases b <;> cases c <;> rfl
theorem h_lin (l : List Int) (x : Int) (hl : l.length ≤ 1048576) : g_lin (l, x) = some (decide (x ∈ l), ()) := by
  rw [← h_ihasInt l x hl]
  show f_lin BIG _ = f_ihasInt BIG _
  rw [e_lin, e_ihasInt]
section
variable {r : Int} {F : FT} {k : Nat} {X : List Int} {p w : Int} {C : FT} {Y : List Int} {F' : FT}
theorem w_iSplitTour (h : SpF r F k X p w C Y F') (ht : TrOk r F) {u v : Int} (huv : (u = p ∧ v = w) ∨ (u = w ∧ v = p)) : g_iSplitTour (tr r F, u, v) = some ((tr r F', tr w C, true), ()) := by
  have hm : maxLen = 9223372036854775807 := by decide
  have hl := h.len.1
  have hlen := tr_len r F
  have hlt := ht.len
  have hwl : 1 ≤ (tr w C).length := by simp [tr]
  show f_iSplitTour BIG _ = _
  rw [e_iSplitTour, w_iTourOk ht, Option.bind_some]
  simp only [Bool.not_true, cond_false]
  generalize hT : tr r F = T at *
  refine loop_bind (P := fun o => o = some ((tr r F', tr w C, true), ())) (fun (s : Int × Int × Int) => ∃ m : Nat, s.2.2 = m ∧ m + 1 ≤ T.length ∧ s.1 = (if X.length < m then (X.length : Int) else -1) ∧ s.2.1 = (if X.length + (tr w C).length < m then ((X.length + (tr w C).length : Nat) : Int) else if X.length < m then (X.length : Int) else -1)) (fun s => T.length - s.2.2.toNat) (fun _ (b : Int × Int) => b = ((X.length : Int), ((X.length + (tr w C).length : Nat) : Int))) (by simp [BIG]; omega) ⟨0, rfl, by omega, by simp, by simp⟩ (fun self s hs hself => ?_) (fun b hb => ?_)
  · obtain ⟨i, j, m'⟩ := s
    obtain ⟨m, g1, g2, g3, g4⟩ := hs
    simp only at g1 g2 g3 g4 hself ⊢
    subst g1
    rw [wr1 (by omega)]
    by_cases hm1 : m + 1 < T.length
    · rw [decide_eq_true (show (((m + 1 : Nat) : Int) < (T.length : Int)) from by omega), cond_true]
      have hm0 : m < T.length := by omega
      have hp := h.pair ht (m := m) (by rw [hT]; exact hm1) (by rw [hT]; exact List.getElem?_eq_getElem hm0) (by rw [hT]; exact List.getElem?_eq_getElem hm1)
      have b0 : ∀ {B : Type} {k : Nat → Option B}, bnd T.length (m : Int) k = k m := fun {B k} => bnd_nat hm0
      have b1 : ∀ {B : Type} {k : Nat → Option B}, bnd T.length ((m + 1 : Nat) : Int) k = k (m + 1) := fun {B k} => bnd_nat hm1
      simp only [b0, b1, List.getElem?_eq_getElem hm0, List.getElem?_eq_getElem hm1, Option.bind_some]
      have hcond : (bif decide (T[m] = u) then
         (bif decide (T[m + 1] = v) then some true
          else bif decide (T[m] = v) then some (decide (T[m + 1] = u)) else some false)
        else bif decide (T[m] = v) then some (decide (T[m + 1] = u)) else some false) = some (decide (m = X.length ∨ m = X.length + (tr w C).length)) := by
        have hq : ((T[m] = u ∧ T[m + 1] = v) ∨ (T[m] = v ∧ T[m + 1] = u)) ↔ (m = X.length ∨ m = X.length + (tr w C).length) := by
          rw [← hp]
          rcases huv with ⟨rfl, rfl⟩ | ⟨rfl, rfl⟩
          · exact Iff.rfl
          · exact Or.comm
        rw [← decide_eq_decide.2 hq]
        rw [or_bif, Bool.decide_or, Bool.decide_and, Bool.decide_and]
      rw [hcond, Option.bind_some]
      by_cases hat : m = X.length ∨ m = X.length + (tr w C).length
      · rw [decide_eq_true hat, cond_true]
        rcases hat with hat | hat
        · have hi : i = -1 := by rw [g3, if_neg (by omega)]
          rw [hi, decide_eq_true (show (-1 : Int) < 0 from by omega), cond_true]
          simp only [Option.bind_some]
          refine hself _ ⟨m + 1, rfl, by omega, ?_, ?_⟩ (by simp; omega)
          · rw [if_pos (by omega)]; simp only; omega
          · rw [if_neg (by omega), if_pos (by omega)]; simp only; omega
        · have hi : i = (X.length : Int) := by rw [g3, if_pos (by omega)]
          rw [hi, decide_eq_false (show ¬ ((X.length : Int) < 0) from by omega), cond_false]
          simp only [Option.bind_some]
          refine hself _ ⟨m + 1, rfl, by omega, ?_, ?_⟩ (by simp; omega)
          · rw [if_pos (by omega)]
          · rw [if_pos (by omega)]; simp only; omega
      · rw [decide_eq_false hat, cond_false]
        simp only [Option.bind_some]
        refine hself _ ⟨m + 1, rfl, by omega, ?_, ?_⟩ (by simp; omega)
        · simp only
          by_cases q : X.length < m
          · rw [g3, if_pos q, if_pos (show X.length < m + 1 by omega)]
          · rw [g3, if_neg q, if_neg (show ¬ X.length < m + 1 by omega)]
        · simp only; rw [g4]
          by_cases q1 : X.length + (tr w C).length < m
          · rw [if_pos q1, if_pos (show X.length + (tr w C).length < m + 1 by omega)]
          · rw [if_neg q1, if_neg (show ¬ X.length + (tr w C).length < m + 1 by omega)]
            by_cases q2 : X.length < m
            · rw [if_pos q2, if_pos (show X.length < m + 1 by omega)]
            · rw [if_neg q2, if_neg (show ¬ X.length < m + 1 by omega)]
    · rw [decide_eq_false (show ¬ (((m + 1 : Nat) : Int) < (T.length : Int)) from by omega), cond_false]
      refine ⟨_, rfl, ?_⟩
      rw [g3, g4, if_pos (by omega), if_pos (by omega)]
  · subst hb
    have hTe : T = X ++ p :: (tr w C ++ p :: Y) := by rw [← hT]; exact h.e1
    have w1 : IntKind.wrap .i64 ((X.length : Int) + 1) = ((X.length + 1 : Nat) : Int) := wr1 (by omega)
    have w2 : IntKind.wrap .i64 (((X.length + (tr w C).length : Nat) : Int) + 2) = ((X.length + (tr w C).length + 2 : Nat) : Int) := by rw [wr (by omega) (by omega)]; omega
    have w3 : IntKind.wrap .i64 (((X.length + (tr w C).length : Nat) : Int) + 1) = ((X.length + (tr w C).length + 1 : Nat) : Int) := wr1 (by omega)
    simp only [w1, w2, w3, Int.toNat_natCast, Nat.sub_zero, List.drop_zero, decide_eq_false (show ¬ ((X.length : Int) < 0) from by omega), decide_eq_true (show (0 : Int) ≤ ((X.length + 1 : Nat) : Int) from by omega), decide_eq_true (show (0 : Int) ≤ ((X.length + (tr w C).length + 2 : Nat) : Int) from by omega), decide_eq_true (show (0 : Int) ≤ ((X.length + (tr w C).length + 1 : Nat) : Int) from by omega), cond_true, cond_false]
    have t1 : T.take (X.length + 1) = X ++ [p] := by
      rw [hTe, List.take_append, List.take_of_length_le (by omega), show X.length + 1 - X.length = 1 from by omega]; rfl
    have t2 : T.drop (X.length + (tr w C).length + 2) = Y := by
      rw [hTe, List.drop_append, List.drop_eq_nil_of_le (by omega), show X.length + (tr w C).length + 2 - X.length = (tr w C).length + 1 + 1 from by omega, List.drop_succ_cons, List.drop_append, List.drop_eq_nil_of_le (by omega), show (tr w C).length + 1 - (tr w C).length = 1 from by omega]; rfl
    have t3 : (T.drop (X.length + 1)).take (X.length + (tr w C).length + 1 - (X.length + 1)) = tr w C := by
      rw [hTe, List.drop_append, List.drop_eq_nil_of_le (by omega), show X.length + 1 - X.length = 1 from by omega, List.nil_append, show X.length + (tr w C).length + 1 - (X.length + 1) = (tr w C).length from by omega]
      show List.take (tr w C).length (tr w C ++ p :: Y) = _
      rw [List.take_left]
    have t4 : (T.drop (X.length + (tr w C).length + 2)).take (T.length - (X.length + (tr w C).length + 2)) = Y := by
      rw [List.take_of_length_le (by rw [List.length_drop]; omega), t2]
    rw [decide_eq_true (by omega), cond_true, w_icopyInts _ (by rw [List.length_take]; omega), Option.bind_some, decide_eq_true (by omega), cond_true, t1, t4, t3]
    simp only
    rw [decide_eq_true (by simp only [List.length_append, List.length_cons, List.length_nil]; omega), cond_true, decide_eq_true (by omega), cond_true, w_icopyInts _ (by omega), Option.bind_some, h.e2]
    simp
end
theorem w_iSplitTour_one {v : Int} {f : FT} (ht : TrOk v f) (hl : (tr v f).length = 1) (a b : Int) : g_iSplitTour (tr v f, a, b) = some (([], [], false), ()) := by
  show f_iSplitTour BIG _ = _
  rw [e_iSplitTour, w_iTourOk ht, Option.bind_some]
  simp only [Bool.not_true, cond_false]
  refine loop_bind (P := fun o => o = some (([], [], false), ())) (fun (s : Int × Int × Int) => s = (-1, -1, 0)) (fun s => 0) (fun _ (b : Int × Int) => b = (-1, -1)) (by simp [BIG]) rfl (fun self s hs hself => ?_) (fun b hb => ?_)
  · subst hs
    rw [hl]
    exact ⟨_, rfl, rfl⟩
  · subst hb
    rfl
theorem w_iJoinTours {r w p : Int} {A C : FT} (hA : TrOk r A) (hC : TrOk w C) (hd : ∀ x, x ∈ tr w C → x ∉ tr r A) (hp : p ∈ tr r A) (hsz : (tr r A).length + (tr w C).length ≤ 100) :
    ∃ J, g_iJoinTours (tr r A, p, tr w C, w) = some ((tr r J, true), ()) ∧ TrOk r J ∧ (∀ x, x ∈ tr r J ↔ x ∈ tr r A ∨ x ∈ tr w C) ∧ (tr r J).length = (tr r A).length + (tr w C).length + 1 := by
  have hm : maxLen = 9223372036854775807 := by decide
  obtain ⟨k2, hk2, hx2, e2⟩ := w_iReroot hC (x := w) (List.mem_cons_self ..)
  obtain ⟨D, eD, hD, mD⟩ := rot_tr hC hk2 hx2
  have lD := (rot_head hk2 hx2).2
  rw [eD] at e2 lD
  have hpl : ¬ (if (tr r A).findIdx (fun y => decide (y = p)) < (tr r A).length then ((tr r A).findIdx (fun y => decide (y = p)) : Int) else -1) < 0 := by
    rw [if_pos (List.findIdx_lt_length.2 ⟨p, hp, by simp⟩)]; omega
  have main : ∀ m : Nat, m < (tr r A).length → ∃ J, (tr r A).take (m + 1) ++ tr w D ++ (tr r A).drop m = tr r J ∧ TrOk r J ∧ (∀ x, x ∈ tr r J ↔ x ∈ tr r A ∨ x ∈ tr w C) ∧ (tr r J).length = (tr r A).length + (tr w C).length + 1 := by
    intro m hmA
    obtain ⟨J, j1, j2⟩ := insert_at w D A r m hmA
    have hpm : (r :: J.vs).Perm ((w :: D.vs) ++ (r :: A.vs)) := (List.Perm.cons _ j2).trans List.perm_middle.symm
    refine ⟨J, j1, ⟨hpm.nodup_iff.2 ?_, fun x hx => ?_⟩, fun x => ?_, ?_⟩
    · rw [List.nodup_append]
      refine ⟨hD.nd, hA.nd, fun a ha b hb hab => ?_⟩
      subst hab
      exact hd a ((mD a).1 ((tr_mem _ _ _).2 ha)) ((tr_mem _ _ _).2 hb)
    · have := hpm.mem_iff.1 hx
      rw [List.mem_append] at this
      rcases this with h | h
      · exact hD.rg x h
      · exact hA.rg x h
    · rw [tr_mem, hpm.mem_iff, List.mem_append, ← tr_mem w D, mD, ← tr_mem r A]
      exact Or.comm
    · have h1 := j2.length_eq
      rw [tr_len, tr_len, ← lD, tr_len]
      simp only [List.length_append, List.length_cons] at h1
      omega
  have cont : ∀ m : Nat, m < (tr r A).length → ∃ J, (tr r A).take (m + 1) ++ tr w D ++ (tr r A).drop m = tr r J ∧ TrOk r J ∧ (∀ x, x ∈ tr r J ↔ x ∈ tr r A ∨ x ∈ tr w C) ∧ (tr r J).length = (tr r A).length + (tr w C).length + 1 := main
  show ∃ J, f_iJoinTours BIG _ = _ ∧ _
  rw [e_iJoinTours, e2, Option.bind_some, w_iTourOk hA, Option.bind_some, h_iplaceOf _ _ (by omega), Option.bind_some]
  simp only [Bool.not_true, cond_false, Option.bind_some, decide_eq_false hpl]
  rw [hiLoop (tr r A) (by omega) (fun y => decide (y ∈ tr w C)) ([], false) (fun self i y hy => ?_) (fun self => by simp)]
  · have : (tr r A).any (fun y => decide (y ∈ tr w C)) = false := by
      rw [List.any_eq_false]
      intro y hy
      rw [decide_eq_true_eq]
      exact fun h => hd y h hy
    rw [this]
    simp only [Bool.false_eq_true, if_false, Option.bind_some]
    obtain ⟨ks, hks, hpk⟩ := List.getElem_of_mem hp
    have hw0 : IntKind.wrap .i64 (((tr r A).length : Int) - 1) = (((tr r A).length - 1 : Nat) : Int) := by rw [wr (by omega) (by omega)]; omega
    rw [hw0]
    refine loop_bind (P := fun o => ∃ J, o = some ((tr r J, true), ()) ∧ TrOk r J ∧ (∀ x, x ∈ tr r J ↔ x ∈ tr r A ∨ x ∈ tr w C) ∧ (tr r J).length = (tr r A).length + (tr w C).length + 1) (fun (s : Int) => ∃ m : Nat, s = (m : Int) ∧ m < (tr r A).length ∧ ks ≤ m) (fun s => s.toNat) (fun _ (b : Int) => ∃ m : Nat, b = (m : Int) ∧ m < (tr r A).length) (by simp [BIG]; omega) ⟨_, rfl, by omega, by omega⟩ (fun self s hs hself => ?_) (fun b hb => ?_)
    · obtain ⟨m, rfl, m1, m2⟩ := hs
      rw [bnd_nat m1, List.getElem?_eq_getElem m1, Option.bind_some]
      by_cases hmp : (tr r A)[m] = p
      · rw [decide_eq_true hmp]
        exact ⟨_, rfl, m, rfl, m1⟩
      · rw [decide_eq_false hmp]
        have : m ≠ ks := fun h => hmp (by subst h; exact hpk)
        have hw1 : IntKind.wrap .i64 ((m : Int) - 1) = ((m - 1 : Nat) : Int) := by rw [wr (by omega) (by omega)]; omega
        simp only [Bool.not_false, cond_true, hw1]
        exact hself _ ⟨m - 1, rfl, by omega, by omega⟩ (by simp; omega)
    · obtain ⟨m, rfl, m1⟩ := hb
      obtain ⟨J, j1, j2⟩ := main m m1
      refine ⟨J, ?_, j2⟩
      have e3 : List.take ((tr r A).length - m) (List.drop m (tr r A)) = (tr r A).drop m := List.take_of_length_le (by simp)
      rw [wr1 (by omega)]
      simp only [Int.toNat_natCast, Nat.sub_zero, List.drop_zero, e3]
      rw [decide_eq_true (by omega), cond_true, decide_eq_true (by omega), cond_true, w_icopyInts _ (by rw [List.length_take]; omega), Option.bind_some]
      simp only
      rw [decide_eq_true (by rw [List.length_take]; omega), cond_true, decide_eq_true (by omega), cond_true, decide_eq_true (by omega), cond_true, decide_eq_true (by simp only [List.length_append, List.length_take, List.length_drop]; omega), cond_true, j1]
  · have hi := (List.getElem?_eq_some_iff.1 hy).1
    simp only [show ((i : Int) < ((tr r A).length : Int)) from by omega, decide_true, cond_true]
    rw [bnd_nat hi, hy, Option.bind_some, h_ihasInt _ _ (by omega), Option.bind_some, wr1 (by omega)]
    by_cases h : y ∈ tr w C <;> simp [h]
theorem law_lFnSplits (a : List Int) (h : a.length ≤ maxLen) : g_lFnSplits a = some (true, ()) := by
  have hm : maxLen = 9223372036854775807 := by decide
  show f_lFnSplits BIG _ = _
  rw [e_lFnSplits, h_lbig, Option.bind_some]
  by_cases ha : a.length ≤ 1048576
  case neg => rw [decide_eq_true (by omega)]; rfl
  rw [decide_eq_false (by omega), cond_false]
  obtain ⟨v, f, x, k1, ht, hx⟩ := h_sDrawRightTour a ha
  have hlen := tr_len v f
  have hl := ht.len
  rw [k1, Option.bind_some]
  simp only
  by_cases h3 : (tr v f).length < 3
  · have h1 : (tr v f).length = 1 := by omega
    rw [decide_eq_true (by omega), cond_true, w_iSplitTour_one ht h1, Option.bind_some]
    simp only [Bool.not_false, cond_true]
    rw [w_iTourOk ht]
    rfl
  · obtain ⟨pl, kp, hp12, hpin⟩ := h_sDrawPlaces a ha
    rw [decide_eq_false (by omega), cond_false, kp, Option.bind_some]
    simp only
    have hp0 : pl[Int.toNat 0]? = some (pl.getD 0 0) := getD_at (show 0 < pl.length by omega)
    have hr := hpin (pl.getD 0 0) (List.mem_of_getElem? hp0)
    rw [bnd0 (by omega), hp0, Option.bind_some]
    have hw0 : IntKind.wrap .i64 (((tr v f).length : Int) - 1) = (((tr v f).length - 1 : Nat) : Int) := by rw [wr (by omega) (by omega)]; omega
    rw [hw0, decide_eq_false (by omega), cond_false]
    have hq1 : 0 ≤ Int.tmod (pl.getD 0 0) (((tr v f).length - 1 : Nat) : Int) := Int.tmod_nonneg _ hr.1
    have hq2 : Int.tmod (pl.getD 0 0) (((tr v f).length - 1 : Nat) : Int) < (((tr v f).length - 1 : Nat) : Int) := Int.tmod_lt_of_pos _ (by omega)
    obtain ⟨kk, hkk⟩ : ∃ kk : Nat, Int.tmod (pl.getD 0 0) (((tr v f).length - 1 : Nat) : Int) = (kk : Int) := ⟨_, (Int.toNat_of_nonneg hq1).symm⟩
    rw [hkk] at hq2 ⊢
    have hk1 : kk + 1 < (tr v f).length := by omega
    have hk0 : kk < (tr v f).length := by omega
    obtain ⟨X, p, w, C, Y, F', hS⟩ := split_at f v kk hk1
    obtain ⟨hC, hF, hd⟩ := hS.nd ht
    have huv := (hS.pair ht hk1 (List.getElem?_eq_getElem hk0) (List.getElem?_eq_getElem hk1)).2 hS.at'
    have hvu : ((tr v f)[kk + 1] = p ∧ (tr v f)[kk] = w) ∨ ((tr v f)[kk + 1] = w ∧ (tr v f)[kk] = p) := by
      rcases huv with ⟨q1, q2⟩ | ⟨q1, q2⟩
      · exact .inr ⟨q2, q1⟩
      · exact .inl ⟨q2, q1⟩
    obtain ⟨hl1, hl2⟩ := hS.len
    have hpF : p ∈ tr v F' := by rw [hS.e2]; simp
    have hwC : w ∈ tr w C := List.mem_cons_self ..
    have hwF : w ∉ tr v F' := hd w hwC
    obtain ⟨J, ej, hJ, mJ, lJ⟩ := w_iJoinTours hF hC hd hpF (by omega)
    have b0 : ∀ {B : Type} {k : Nat → Option B}, bnd (tr v f).length (kk : Int) k = k kk := fun {B k} => bnd_nat hk0
    have b1 : ∀ {B : Type} {k : Nat → Option B}, bnd (tr v f).length ((kk + 1 : Nat) : Int) k = k (kk + 1) := fun {B k} => bnd_nat hk1
    have bt : ∀ {B : Type} {k : Nat → Option B}, bnd (tr v f).length 0 k = k (Int.toNat 0) := fun {B k} => bnd0 (by omega)
    have bF : ∀ {B : Type} {k : Nat → Option B}, bnd (tr v F').length 0 k = k (Int.toNat 0) := fun {B k} => bnd0 (by omega)
    have t0 : (tr v f)[Int.toNat 0]? = some v := rfl
    have f0 : (tr v F')[Int.toNat 0]? = some v := rfl
    have hms : ∀ x, x ∈ tr v J ↔ x ∈ tr v f := fun x => by
      rw [mJ, tr_mem v f, hS.perm.mem_iff, List.mem_append, ← tr_mem, ← tr_mem]
      exact Or.comm
    obtain ⟨L, m1, m2, hL⟩ := h_verts_same (a := tr v J) (b := tr v f) (by omega) (by omega) hms
    have hws : IntKind.wrap .i64 (IntKind.wrap .i64 (((tr v F').length : Int) + ((tr w C).length : Int)) + 1) = ((tr v f).length : Int) := by
      rw [wr (n := ((tr v F').length : Int) + ((tr w C).length : Int)) (by omega) (by omega), wr (by omega) (by omega)]; omega
    have hx32 : (Option.bind (g_lin (tr v F', (tr v f)[kk])) fun r31 => bif !r31.1 then some ((tr v f)[kk + 1], (tr v f)[kk]) else some ((tr v f)[kk], (tr v f)[kk + 1])) = some (p, w) := by
      rw [h_lin _ _ (by omega), Option.bind_some]
      rcases huv with ⟨q1, q2⟩ | ⟨q1, q2⟩
      · rw [q1, q2, decide_eq_true hpF]; rfl
      · rw [q1, q2, decide_eq_false hwF]; rfl
    simp only [wr1 (show kk < maxLen by omega), b0, b1, List.getElem?_eq_getElem hk0, List.getElem?_eq_getElem hk1, Option.bind_some, w_iSplitTour hS ht huv, w_iSplitTour hS ht hvu, Bool.not_true, cond_false, h_lsameInts (tr v F') (tr v F') (by omega), h_lsameInts (tr w C) (tr w C) (by omega), decide_true, w_iTourOk hF, w_iTourOk hC, bF, bt, t0, f0, hws, hx32, ej, cond_true, w_iTourOk hJ, m1, m2, h_lsameInts L L (by omega), decide_eq_true (show ((tr v J).length : Int) = ((tr v f).length : Int) by omega), h_lin (tr v F') p (by omega), h_lin (tr w C) w (by omega), h_lin (tr v F') w (by omega), decide_eq_true hpF, decide_eq_true hwC, decide_eq_false hwF, Bool.not_false]
end Go.Fw
