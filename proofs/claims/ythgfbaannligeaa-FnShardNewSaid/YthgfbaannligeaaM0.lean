/- What the given functions come to. No conditions. -/
import Derived.Test.YthgfbaannligeaaX0
import Derived.IntWalk
set_option linter.unusedVariables false
set_option linter.unusedSimpArgs false
namespace Go.Fw

theorem loop_rel {X B : Type} {F : (X → Option B) → X → Option B} (I : X → Prop) (μ : X → Nat) (Q : X → B → Prop)
    (h : ∀ self x, I x → (∀ y, I y → μ y < μ x → ∃ b, self y = some b ∧ Q y b) → ∃ b, F self x = some b ∧ Q x b) : ∀ {n : Nat} {x : X}, μ x < n → I x → ∃ b, loopT n F x = some b ∧ Q x b
  | 0, _, hn, _ => absurd hn (Nat.not_lt_zero _)
  | n + 1, x, hn, hi => h (it F n) x hi fun _ hy hm => loop_rel I μ Q h (n := n) (by omega) hy
theorem loop_eq {X B : Type} {F : (X → Option B) → X → Option B} (I : X → Prop) (μ : X → Nat) (R : X → B)
    (h : ∀ self x, I x → (∀ y, I y → μ y < μ x → self y = some (R y)) → F self x = some (R x)) {n : Nat} {x : X} (hn : μ x < n) (hi : I x) : loopT n F x = some (R x) := by
  obtain ⟨b, h1, h2⟩ := loop_rel (F := F) I μ (fun x b => b = R x) (fun self x hx hs => ⟨_, h self x hx fun y hy hm => by obtain ⟨b, h1, h2⟩ := hs y hy hm; rw [h1, h2], rfl⟩) hn hi
  rw [h1, h2]
theorem wr {n : Int} (h : -9223372036854775808 ≤ n) (h' : n ≤ 9223372036854775807) : IntKind.wrap .i64 n = n := by
  rw [IntKind.wrap_i64]; omega
theorem wr1 {i : Nat} (h : i < maxLen) : IntKind.wrap .i64 ((i : Int) + 1) = ((i + 1 : Nat) : Int) := by
  have : maxLen = 9223372036854775807 := by decide
  rw [wr (by omega) (by omega)]; rfl
theorem bnd_ok {B : Type} {len : Nat} {i : Int} {k : Nat → Option B} (h : 0 ≤ i) (h' : i < len) : bnd len i k = k i.toNat := by
  unfold bnd
  rw [if_pos ⟨h, by omega⟩]
theorem bnd_nat {B : Type} {len : Nat} {i : Nat} {k : Nat → Option B} (h' : i < len) : bnd len (i : Int) k = k i := by
  rw [bnd_ok (Int.natCast_nonneg i) (by omega)]
  simp
/-- A loop that goes through a row, and is left at the first place where it is told so. -/
theorem allLoop {α B : Type} (a : List α) (hl : a.length < 18446744073709551616) {F : (Int → Option (Unit ⊕ B)) → Int → Option (Unit ⊕ B)} (p : Nat → Bool) (b : B)
    (hF : ∀ self (i : Nat) y, a[i]? = some y → F self (i : Int) = if p i then self ((i + 1 : Nat) : Int) else some (.inr b))
    (hE : ∀ self, F self (a.length : Int) = some (.inl ())) : loopT BIG F 0 = some (if ∀ i, i < a.length → p i = true then .inl () else .inr b) := by
  have hh := loop_rel (F := F) (fun x => ∃ i : Nat, x = i ∧ i ≤ a.length) (fun x => a.length - x.toNat) (fun x r => ((∀ i : Nat, x ≤ (i : Int) → i < a.length → p i = true) ∧ r = .inl ()) ∨ ((∃ i : Nat, i < a.length ∧ p i = false) ∧ r = .inr b)) (fun self x ⟨i, h1, h2⟩ hs => ?_) (n := BIG) (x := 0) (by simp; exact hl) ⟨0, rfl, by simp⟩
  · obtain ⟨r, hr, hq⟩ := hh
    rw [hr]
    congr 1
    rcases hq with ⟨h1, rfl⟩ | ⟨⟨i, h1, h2⟩, rfl⟩
    · rw [if_pos fun i hi => h1 i (by omega) hi]
    · rw [if_neg]
      intro h
      rw [h i h1] at h2; cases h2
  · subst h1
    by_cases hi : i < a.length
    · rw [hF self i a[i] (List.getElem?_eq_getElem hi)]
      cases hp : p i with
      | true =>
        rw [if_pos rfl]
        obtain ⟨r, hr, hq⟩ := hs _ ⟨i + 1, rfl, hi⟩ (by simp; omega)
        refine ⟨r, hr, ?_⟩
        rcases hq with ⟨h1, rfl⟩ | h1
        · refine .inl ⟨fun k hk hk' => ?_, rfl⟩
          by_cases h : k = i
          · subst h; exact hp
          · exact h1 k (by omega) hk'
        · exact .inr h1
      | false => exact ⟨_, rfl, .inr ⟨⟨i, hi, hp⟩, rfl⟩⟩
    · have : i = a.length := by omega
      subst this
      exact ⟨_, hE self, .inl ⟨fun k hk hk' => by omega, rfl⟩⟩
/-- A loop that goes through a row and keeps an account. -/
theorem foldLoop {α S B : Type} (a : List α) (hl : a.length < 18446744073709551616) {F : (S × Int → Option B) → S × Int → Option B} (I : Nat → S → Prop) (st : S → α → S) (R : S → B) {s0 : S} (h0 : I 0 s0)
    (hI : ∀ i s y, a[i]? = some y → I i s → I (i + 1) (st s y)) (hF : ∀ self s (i : Nat) y, a[i]? = some y → I i s → F self (s, (i : Int)) = self (st s y, ((i + 1 : Nat) : Int)))
    (hE : ∀ self s, I a.length s → F self (s, (a.length : Int)) = some (R s)) : loopT BIG F (s0, 0) = some (R (a.foldl st s0)) := by
  have := loop_eq (F := F) (fun x => ∃ i : Nat, x.2 = i ∧ i ≤ a.length ∧ I i x.1) (fun x => a.length - x.2.toNat) (fun x => R ((a.drop x.2.toNat).foldl st x.1)) (fun self x ⟨i, h1, h2, h3⟩ hs => ?_) (n := BIG) (x := (s0, 0)) (by simp; exact hl) ⟨0, rfl, by simp, h0⟩
  · simpa using this
  · obtain ⟨s, j⟩ := x
    simp only at h1 h2 h3
    subst h1
    by_cases hi : i < a.length
    · have hy := List.getElem?_eq_getElem hi
      rw [hF self s i a[i] hy h3, hs _ ⟨i + 1, rfl, hi, hI _ _ _ hy h3⟩ (by simp; omega)]
      simp only [Int.toNat_natCast]
      rw [List.drop_eq_getElem_cons hi, List.foldl_cons]
    · have : i = a.length := by omega
      subst this
      rw [hE self s h3]
      simp
/-- Two vertices hang together by edges. -/
inductive Con (E : List (Int × Int)) : Int → Int → Prop
  | refl (v : Int) : Con E v v
  | fwd {u v w : Int} : Con E u v → (v, w) ∈ E → Con E u w
  | bwd {u v w : Int} : Con E u v → (w, v) ∈ E → Con E u w
theorem Con.trans {E : List (Int × Int)} {u v w : Int} (h : Con E u v) (h' : Con E v w) : Con E u w := by
  induction h' with
  | refl => exact h
  | fwd _ he ih => exact .fwd ih he
  | bwd _ he ih => exact .bwd ih he
theorem Con.symm {E : List (Int × Int)} {u v : Int} (h : Con E u v) : Con E v u := by
  induction h with
  | refl => exact .refl _
  | fwd _ he ih => exact Con.trans (.bwd (.refl _) he) ih
  | bwd _ he ih => exact Con.trans (.fwd (.refl _) he) ih
theorem Con.mono {E E' : List (Int × Int)} (hE : ∀ e, e ∈ E → e ∈ E') {u v : Int} (h : Con E u v) : Con E' u v := by
  induction h with
  | refl => exact .refl _
  | fwd _ he ih => exact .fwd ih (hE _ he)
  | bwd _ he ih => exact .bwd ih (hE _ he)
theorem Con.of {E : List (Int × Int)} {u v : Int} (h : (u, v) ∈ E) : Con E u v := .fwd (.refl _) h
theorem Con.nil {u v : Int} (h : Con [] u v) : u = v := by
  induction h with
  | refl => rfl
  | fwd _ he _ => cases he
  | bwd _ he _ => cases he
/-- Edges of so many vertices. -/
def EIn (n : Nat) (E : List (Int × Int)) : Prop := ∀ e, e ∈ E → 0 ≤ e.1 ∧ e.1 < n ∧ 0 ≤ e.2 ∧ e.2 < n
theorem Con.range {n : Nat} {E : List (Int × Int)} (hE : EIn n E) {u v : Int} (h : Con E u v) (hu : 0 ≤ u ∧ u < n) : 0 ≤ v ∧ v < n := by
  induction h with
  | refl => exact hu
  | fwd _ he _ => exact ⟨(hE _ he).2.2.1, (hE _ he).2.2.2⟩
  | bwd _ he _ => exact ⟨(hE _ he).1, (hE _ he).2.1⟩
/-- Labels: to each vertex the least one that it hangs together with. -/
def Lab (n : Nat) (E : List (Int × Int)) (l : List Int) : Prop :=
  l.length = n ∧ ∀ (v : Nat) (x : Int), l[v]? = some x → Con E v x ∧ 0 ≤ x ∧ ∀ u : Int, 0 ≤ u → Con E v u → x ≤ u
theorem Lab.le {n : Nat} {E : List (Int × Int)} {l : List Int} (h : Lab n E l) {v : Nat} {x : Int} (hx : l[v]? = some x) : x ≤ v :=
  (h.2 v x hx).2.2 v (Int.natCast_nonneg v) (.refl _)
theorem Lab.lt {n : Nat} {E : List (Int × Int)} {l : List Int} (h : Lab n E l) {v : Nat} {x : Int} (hx : l[v]? = some x) : 0 ≤ x ∧ x < n := by
  have h1 := h.le hx
  have h2 := (List.getElem?_eq_some_iff.1 hx).1
  have h3 := (h.2 v x hx).2.1
  have h4 := h.1
  omega
theorem Lab.iff {n : Nat} {E : List (Int × Int)} {l : List Int} (h : Lab n E l) {u v : Nat} {x y : Int} (hx : l[u]? = some x) (hy : l[v]? = some y) : x = y ↔ Con E u v := by
  have h1 := h.2 u x hx
  have h2 := h.2 v y hy
  constructor
  · intro e
    subst e
    exact h1.1.trans h2.1.symm
  · intro c
    have a := h1.2.2 y h2.2.1 (c.trans h2.1)
    have b := h2.2.2 x h1.2.1 (c.symm.trans h1.1)
    omega
/-- A label is its own label. -/
theorem Lab.self {n : Nat} {E : List (Int × Int)} {l : List Int} (h : Lab n E l) {v : Nat} {x : Int} (hx : l[v]? = some x) : l[x.toNat]? = some x := by
  have h1 := h.lt hx
  have hi : x.toNat < l.length := by rw [h.1]; omega
  rw [List.getElem?_eq_getElem hi]
  have h2 := h.2 v x hx
  have hc : Con E (x.toNat : Int) v := by rw [Int.toNat_of_nonneg h1.1]; exact h2.1.symm
  rw [(h.iff (List.getElem?_eq_getElem hi) hx).2 hc]
/-- Labels without edges. -/
def lab0 (n : Nat) : List Int := (List.range n).map fun (i : Nat) => (i : Int)
theorem lab0_get {n v : Nat} {x : Int} (h : (lab0 n)[v]? = some x) : v < n ∧ x = v := by
  have hi := (List.getElem?_eq_some_iff.1 h).1
  simp only [lab0, List.length_map, List.length_range] at hi
  simp only [lab0, List.getElem?_map, List.getElem?_range hi, Option.map_some, Option.some.injEq] at h
  exact ⟨hi, h.symm⟩
theorem lab0_len (n : Nat) : (lab0 n).length = n := by simp [lab0]
theorem Lab.zero (n : Nat) : Lab n [] (lab0 n) := by
  refine ⟨lab0_len n, fun v x h => ?_⟩
  obtain ⟨_, rfl⟩ := lab0_get h
  exact ⟨.refl _, Int.natCast_nonneg v, fun u _ h => by rw [h.nil]; exact Int.le_refl _⟩
theorem h_sl01In (a b c : Int) : g_sl01In (a, b, c) = some (decide (b ≤ a) && decide (a ≤ c), ()) := by
  show f_sl01In BIG _ = _
  rw [e_sl01In]
  cases decide (b ≤ a) <;> rfl
theorem h_iin (a b c : Int) : g_iin (a, b, c) = some (decide (b ≤ a) && decide (a ≤ c), ()) := by
  show f_iin BIG _ = _
  rw [e_iin]
  cases decide (b ≤ a) <;> rfl
abbrev Ed := Int × Int
open Classical in
open Classical in
def inB (a b c : Int) : Bool := decide (b ≤ a) && decide (a ≤ c)
theorem h_sl01In' (a b c : Int) : g_sl01In (a, b, c) = some (inB a b c, ()) := h_sl01In a b c
theorem h_iin' (a b c : Int) : g_iin (a, b, c) = some (inB a b c, ()) := h_iin a b c
theorem inB_t {a b c : Int} : inB a b c = true ↔ b ≤ a ∧ a ≤ c := by simp [inB]
def edB (n : Int) (e : Ed) : Bool := inB n 1 12 && (inB e.1 0 (n - 1) && (inB e.2 0 (n - 1) && decide (e.1 < e.2)))
theorem h_iEdgeOk (n : Int) (e : Ed) : g_iEdgeOk (n, e) = some (edB n e, ()) := by
  show f_iEdgeOk BIG _ = _
  rw [e_iEdgeOk, h_iin', Option.bind_some]
  unfold edB
  cases h : inB n 1 12 with
  | false => rfl
  | true =>
    have := inB_t.1 h
    rw [wr (by omega) (by omega)]
    simp only [h_iin', Option.bind_some, cond_true, Bool.true_and]
    cases inB e.1 0 (n - 1) <;> cases inB e.2 0 (n - 1) <;> rfl
def lsB (x y : Ed) : Bool := decide (x.1 < y.1) || (decide (x.1 = y.1) && decide (x.2 < y.2))
theorem h_iahead (x y : Ed) : g_iahead (x, y) = some (lsB x y, ()) := by
  show f_iahead BIG _ = _
  rw [e_iahead]
  unfold lsB
  cases decide (x.1 < y.1) <;> cases decide (x.1 = y.1) <;> rfl
def eP (n : Int) (es : List Ed) (i : Nat) : Bool := match es[i]? with
  | some y => edB n y && (match i with
    | 0 => true
    | j + 1 => match es[j]? with
      | some x => lsB x y
      | none => false)
  | none => false
theorem eP_0 {n : Int} {es : List Ed} {y : Ed} (h : es[0]? = some y) : eP n es 0 = edB n y := by
  unfold eP; rw [h]; simp
theorem eP_s {n : Int} {es : List Ed} {x y : Ed} {j : Nat} (h : es[j + 1]? = some y) (h' : es[j]? = some x) : eP n es (j + 1) = (edB n y && lsB x y) := by
  unfold eP; rw [h]; simp only [h']
def eOk (n : Int) (es : List Ed) : Bool := if ∀ i, i < es.length → eP n es i = true then decide ((es.length : Int) ≤ 66) else false
theorem h_iedgesOk (n : Int) (es : List Ed) (hl : es.length ≤ 1048576) : g_iedgesOk (n, es) = some (eOk n es, ()) := by
  have hm : maxLen = 9223372036854775807 := by decide
  show f_iedgesOk BIG _ = _
  rw [e_iedgesOk, allLoop es (by omega) (eP n es) false]
  · unfold eOk
    split <;> rfl
  · intro self i y hy
    have hi := (List.getElem?_eq_some_iff.1 hy).1
    simp only [show ((i : Int) < (es.length : Int)) from by omega, decide_true, cond_true]
    rw [bnd_nat hi, hy, Option.bind_some, h_iEdgeOk, wr1 (by omega)]
    cases i with
    | zero =>
      rw [eP_0 hy]
      cases edB n y <;> simp
    | succ j =>
      have hj : es[j]? = some (es[j]'(by omega)) := List.getElem?_eq_getElem (by omega)
      rw [eP_s hy hj, show (((j + 1 : Nat) : Int) - 1) = (j : Int) from by omega, wr (n := (j : Int)) (by omega) (by omega)]
      cases hb : edB n y with
      | false => simp
      | true =>
        simp only [Option.bind_some, Bool.not_true, cond_false, show (0 : Int) < ((j + 1 : Nat) : Int) from by omega, decide_true, cond_true, Bool.true_and]
        rw [bnd_nat (by omega), hj]
        simp only [Option.bind_some]
        simp only [Option.bind_some, h_iahead]
        cases lsB _ y <;> rfl
  · intro self
    simp
abbrev An := Int × Bool × List (Int × Int) × List Int
theorem and255 (n : Int) : bits .and .i64 n 255 = n % 256 := by
  have h255 : (BitVec.ofInt 64 255).toNat = 2 ^ 8 - 1 := by decide
  have key : (BitVec.ofInt 64 n &&& BitVec.ofInt 64 255).toNat = (n % ((2 ^ 64 : Nat) : Int)).toNat % 2 ^ 8 := by
    rw [BitVec.toNat_and, BitVec.toNat_ofInt, h255, Nat.and_two_pow_sub_one_eq_mod]
  show IntKind.i64.wrap ((BitVec.ofInt 64 n &&& BitVec.ofInt 64 255).toNat : Nat) = n % 256
  rw [key, IntKind.wrap_i64]
  omega
abbrev Cur := List Int × Int × Int
def curOk (c : Cur) : Prop := c.1.length ≤ 1048576 ∧ 0 ≤ c.2.1 ∧ c.2.1 ≤ c.1.length
theorem h_sl01Byte (c : Cur) (hc : curOk c) : ∃ r c', g_sl01Byte c = some (r, c') ∧ curOk c' ∧ 0 ≤ r ∧ r ≤ 255 := by
  have e : g_sl01Byte c = f_sl01Byte BIG c := rfl
  obtain ⟨h1, h2, h3⟩ := hc
  rw [e, e_sl01Byte, decide_eq_false (by decide), cond_false, decide_eq_false (by decide), cond_false]
  simp only [and255]
  by_cases h : c.2.1 < c.1.length
  · rw [decide_eq_true h, cond_true, bnd_ok h2 h, List.getElem?_eq_getElem (by omega), Option.bind_some, Option.bind_some]
    refine ⟨_, _, rfl, ⟨h1, ?_, ?_⟩, Int.emod_nonneg _ (by decide), by omega⟩
    · show 0 ≤ IntKind.wrap .i64 (c.2.1 + 1)
      rw [wr (by omega) (by omega)]; omega
    · show IntKind.wrap .i64 (c.2.1 + 1) ≤ _
      rw [wr (by omega) (by omega)]
      show c.2.1 + 1 ≤ (c.1.length : Int)
      omega
  · rw [decide_eq_false h, cond_false, Option.bind_some]
    exact ⟨_, _, rfl, ⟨h1, h2, h3⟩, Int.emod_nonneg _ (by decide), by omega⟩
theorem h_sl01Below (c : Cur) (n : Int) (hc : curOk c) (hn : n ≤ 1000000) : ∃ r c', g_sl01Below (c, n) = some (r, c') ∧ curOk c' ∧ 0 ≤ r ∧ (0 < n → r < n) ∧ (n ≤ 0 → r = 0) := by
  have e : g_sl01Below (c, n) = f_sl01Below BIG (c, n) := rfl
  rw [e, e_sl01Below]
  by_cases h0 : n ≤ 0
  · rw [decide_eq_true h0]; exact ⟨0, c, rfl, hc, by omega, by omega, fun _ => rfl⟩
  · rw [decide_eq_false h0, cond_false]
    obtain ⟨r1, c1, k1, o1, a1, b1⟩ := h_sl01Byte c hc
    by_cases h1 : n ≤ 256
    · rw [decide_eq_true h1, cond_true, k1, Option.bind_some, decide_eq_false (by omega), cond_false]
      refine ⟨_, _, rfl, o1, Int.tmod_nonneg _ a1, fun _ => ?_, by omega⟩
      show Int.tmod r1 n < n
      exact Int.tmod_lt_of_pos _ (by omega)
    · rw [decide_eq_false h1, cond_false, k1, Option.bind_some]
      obtain ⟨r2, c2, k2, o2, a2, b2⟩ := h_sl01Byte c1 o1
      obtain ⟨r3, c3, k3, o3, a3, b3⟩ := h_sl01Byte c2 o2
      obtain ⟨r4, c4, k4, o4, a4, b4⟩ := h_sl01Byte c3 o3
      simp only [k2, k3, k4, Option.bind_some]
      rw [decide_eq_false (by omega), cond_false]
      refine ⟨_, _, rfl, o4, ?_, fun _ => Int.tmod_lt_of_pos _ (by omega), by omega⟩
      refine Int.tmod_nonneg _ ?_
      rw [wr (n := r1 * 16777216) (by omega) (by omega), wr (n := r2 * 65536) (by omega) (by omega), wr (n := r3 * 256) (by omega) (by omega), wr (n := r1 * 16777216 + r2 * 65536) (by omega) (by omega), wr (n := r1 * 16777216 + r2 * 65536 + r3 * 256) (by omega) (by omega), wr (by omega) (by omega)]
      omega
theorem h_sl01New (a : List Int) (ha : a.length ≤ 1048576) : ∃ c, g_sl01New a = some (c, ()) ∧ curOk c := by
  have hm : maxLen = 9223372036854775807 := by decide
  have e : g_sl01New a = f_sl01New BIG a := rfl
  rw [e, e_sl01New]
  have := loop_rel (F := fun (self1 : Int × Int → Option (Int)) (x0 : Int × Int) =>
    Option.bind (bif decide (x0.2 < (a.length : Int)) then
      some (decide (x0.2 < (4000 : Int)))
     else some false : Option (Bool)) fun x2 =>
    bif x2 then
     bnd a.length x0.2 fun n3 =>
     Option.bind a[n3]? fun y4 =>
     self1 (bits .and .i64 (IntKind.wrap .i64 ((IntKind.wrap .i64 ((IntKind.wrap .i64 (x0.1 * (131 : Int))) + (IntKind.wrap .i64 (y4)))) + (7 : Int))) (1073741823 : Int), IntKind.wrap .i64 (x0.2 + (1 : Int)))
    else some x0.1) (fun x => ∃ i : Nat, x.2 = i ∧ i ≤ a.length) (fun x => a.length - x.2.toNat) (fun _ _ => True) (fun self x ⟨i, h1, h2⟩ hs => ?_) (n := BIG) (x := (IntKind.wrap .i64 ((13501 : Int) + (a.length : Int)), 0)) (by simp [BIG]; omega) ⟨0, rfl, by omega⟩
  · obtain ⟨b, hb, _⟩ := this
    rw [hb]
    exact ⟨_, rfl, ha, Int.le_refl _, by simp⟩
  · obtain ⟨z, j⟩ := x
    simp only at h1
    subst h1
    by_cases h : i < a.length
    · by_cases h' : (i : Int) < 4000
      · simp only [show ((i : Int) < (a.length : Int)) from by omega, h', decide_true, cond_true, Option.bind_some]
        rw [bnd_nat h, List.getElem?_eq_getElem h, Option.bind_some, wr1 (by omega)]
        exact hs _ ⟨i + 1, rfl, h⟩ (by simp; omega)
      · simp only [show ((i : Int) < (a.length : Int)) from by omega, h', decide_true, decide_false, cond_true, cond_false, Option.bind_some]
        exact ⟨_, rfl, trivial⟩
    · simp only [show ¬ ((i : Int) < (a.length : Int)) from by omega, decide_false, cond_false, Option.bind_some]
      exact ⟨_, rfl, trivial⟩
theorem h_sl01Once (c : Cur) (n : Int) (hc : curOk c) (hn : n ≤ 1000000) : ∃ b c', g_sl01Once (c, n) = some (b, c') ∧ curOk c' := by
  have e : g_sl01Once (c, n) = f_sl01Once BIG (c, n) := rfl
  obtain ⟨r, c', k, o, _⟩ := h_sl01Below c n hc hn
  rw [e, e_sl01Once, k]
  exact ⟨_, _, rfl, o⟩
theorem h_sl01PickInt (c : Cur) (l : List Int) (hc : curOk c) (h0 : 0 < l.length) (hl : l.length ≤ 1000000) : ∃ b c', g_sl01PickInt (c, l) = some (b, c') ∧ curOk c' := by
  have e : g_sl01PickInt (c, l) = f_sl01PickInt BIG (c, l) := rfl
  obtain ⟨r, c', k, o, a, b, _⟩ := h_sl01Below c l.length hc (by omega)
  have b := b (by omega)
  rw [e, e_sl01PickInt, k, Option.bind_some, bnd_ok a b, List.getElem?_eq_getElem (by omega)]
  exact ⟨_, _, rfl, o⟩
theorem h_iWebNew (n : Int) : g_iWebNew n = some (if inB n 1 12 then (n, [], true) else (0, [], false), ()) := by
  show f_iWebNew BIG _ = _
  rw [e_iWebNew, h_iin', Option.bind_some]
  cases inB n 1 12 <;> rfl
theorem h_sWebNew (n : Int) : g_sWebNew n = some (if inB n 1 12 then (n, [], true) else (0, [], false), ()) := by
  show f_sWebNew BIG _ = _
  rw [e_sWebNew, h_sl01In', Option.bind_some]
  cases inB n 1 12 <;> rfl
theorem h_iShardNew (a b : Int) : g_iShardNew (a, b) = some (if inB a 1 3 && inB b 1 12 then (a, b, [], 0, false, [], [], true) else (0, 0, [], 0, false, [], [], false), ()) := by
  show f_iShardNew BIG _ = _
  rw [e_iShardNew, h_iWebNew, h_iin']
  cases inB a 1 3 <;> cases inB b 1 12 <;> rfl
theorem h_sShardNew (a b : Int) : g_sShardNew (a, b) = some (if inB a 1 3 && inB b 1 12 then (a, b, [], 0, false, [], [], true) else (0, 0, [], 0, false, [], [], false), ()) := by
  show f_sShardNew BIG _ = _
  rw [e_sShardNew, h_sWebNew, h_sl01In']
  cases inB a 1 3 <;> cases inB b 1 12 <;> rfl
abbrev Led := Int × Int × Int × Bool
theorem grLoop (E : List Led) (hE : E.length ≤ 4294967295) {n : Int} {F : ((Int × List (Int × Int)) × Int → Option (Int × List (Int × Int))) → (Int × List (Int × Int)) × Int → Option (Int × List (Int × Int))}
    (hF : ∀ self out (i : Nat) y, E[i]? = some y → F self ((n, out), (i : Int)) = bif decide (out.length + 1 ≤ 4294967296) then self ((n, out ++ [(y.1, y.2.1)]), ((i + 1 : Nat) : Int)) else none)
    (hE' : ∀ self x, F self (x, (E.length : Int)) = some x) : loopT BIG F ((n, []), 0) = some (n, E.map fun x => (x.1, x.2.1)) := by
  rw [foldLoop E (by omega) (fun i (s : Int × List (Int × Int)) => s.1 = n ∧ s.2.length = i) (fun s y => (s.1, s.2 ++ [(y.1, y.2.1)])) id ⟨rfl, rfl⟩ (fun i s y _ h => ⟨h.1, by simp [h.2]⟩)]
  · have : ∀ (l : List Led) (s : Int × List (Int × Int)), l.foldl (fun s y => (s.1, s.2 ++ [(y.1, y.2.1)])) s = (s.1, s.2 ++ l.map fun x => (x.1, x.2.1)) := by
      intro l
      induction l with
      | nil => intro s; simp
      | cons y l ih => intro s; rw [List.foldl_cons, ih]; simp
    rw [this]; simp
  · rintro self ⟨m, out⟩ i y hy ⟨rfl, h2⟩
    simp only at h2
    have hi := (List.getElem?_eq_some_iff.1 hy).1
    rw [hF self out i y hy, decide_eq_true (by omega), cond_true]
  · intro self s _
    exact hE' self s
theorem h_iGraphOf (n : Int) (E : List Led) (hE : E.length ≤ 1048576) : g_iGraphOf (n, E) = some ((n, E.map fun x => (x.1, x.2.1)), ()) := by
  have hm : maxLen = 9223372036854775807 := by decide
  show f_iGraphOf BIG _ = _
  rw [e_iGraphOf]
  dsimp only
  rw [grLoop E (by omega)]
  · rfl
  · intro self out i y hy
    have hi := (List.getElem?_eq_some_iff.1 hy).1
    simp only [show ((i : Int) < (E.length : Int)) from by omega, decide_true, cond_true]
    rw [bnd_nat hi, hy, Option.bind_some, wr1 (by omega)]
    rfl
  · intro self x
    simp
theorem h_iOwned (x0 x1 : Int) (x2 : List Led) (x3 : Int) (x4 : Bool) (x5 : List Ed) (x6 : List Int) (hE : x2.length ≤ 1048576) : g_iOwned (x0, x1, x2, x3, x4, x5, x6) = some (x2.map fun x => (x.1, x.2.1), ()) := by
  show f_iOwned BIG _ = _
  rw [e_iOwned]
  dsimp only
  rw [h_iGraphOf _ _ hE]
  rfl
/-- A loop that counts up to a number and keeps an account. -/
theorem rangeLoop {S B : Type} (n : Nat) (hl : n < 18446744073709551616) {F : (S × Int → Option B) → S × Int → Option B} (I : Nat → S → Prop) (st : Nat → S → S) (R : S → B) {s0 : S} (h0 : I 0 s0)
    (hI : ∀ i s, i < n → I i s → I (i + 1) (st i s)) (hF : ∀ self s (i : Nat), i < n → I i s → F self (s, (i : Int)) = self (st i s, ((i + 1 : Nat) : Int)))
    (hE : ∀ self s, I n s → F self (s, (n : Int)) = some (R s)) : loopT BIG F (s0, 0) = some (R ((List.range n).foldl (fun s i => st i s) s0)) := by
  have hr : ∀ {i y : Nat}, (List.range n)[i]? = some y → i < n ∧ y = i := by
    intro i y h
    have hi := (List.getElem?_eq_some_iff.1 h).1
    rw [List.length_range] at hi
    rw [List.getElem?_range hi] at h
    cases h
    exact ⟨hi, rfl⟩
  refine foldLoop (List.range n) (by rw [List.length_range]; exact hl) I (fun s i => st i s) R h0 (fun i s y hy hi => ?_) (fun self s i y hy hi => ?_) (fun self s hs => ?_)
  · obtain ⟨h1, rfl⟩ := hr hy; exact hI _ _ h1 hi
  · obtain ⟨h1, rfl⟩ := hr hy; exact hF _ _ _ h1 hi
  · rw [List.length_range] at hs ⊢; exact hE _ _ hs
theorem fold_snoc {α : Type} (f : Nat → α) (n : Nat) (s : List α) : (List.range n).foldl (fun s i => s ++ [f i]) s = s ++ (List.range n).map f := by
  induction n with
  | zero => simp
  | succ n ih => rw [List.range_succ, List.foldl_append, ih]; simp
theorem lab0Loop (n : Nat) (hn : n ≤ 1000000) {F : (List Int × Int → Option (List Int)) → List Int × Int → Option (List Int)}
    (hF : ∀ self out (i : Nat), i < n → out.length = i → F self (out, (i : Int)) = self (out ++ [(i : Int)], ((i + 1 : Nat) : Int)))
    (hE : ∀ self out, F self (out, (n : Int)) = some out) : loopT BIG F ([], 0) = some (lab0 n) := by
  rw [rangeLoop n (by omega) (fun i (s : List Int) => s.length = i) (fun i s => s ++ [(i : Int)]) id rfl (fun i s _ h => by simp [h]) (fun self s i hi h => hF self s i hi h) (fun self s _ => hE self s), fold_snoc]
  rfl
theorem h_ifirst (n : Nat) (hn : n ≤ 1000000) : g_ifirst (n : Int) = some (lab0 n, ()) := by
  have hm : maxLen = 9223372036854775807 := by decide
  show f_ifirst BIG _ = _
  rw [e_ifirst, lab0Loop n hn]
  · rfl
  · intro self out i hi hl
    simp only [show ((i : Int) < (n : Int)) from by omega, decide_true, cond_true]
    rw [decide_eq_true (by simp; omega), cond_true, wr1 (by omega)]
  · intro self out
    simp
def grB (n : Int) (es : List Ed) : Bool := inB n 1 12 && eOk n es
theorem w_iGraphOk (n : Int) (es : List Ed) (hl : es.length ≤ 1048576) : g_iGraphOk (n, es) = some (grB n es, ()) := by
  show f_iGraphOk BIG _ = _
  rw [e_iGraphOk, h_iin', h_iedgesOk n es hl]
  unfold grB
  cases inB n 1 12 <;> rfl
/-- A byte of a number. -/
def by8 (n : Int) : UInt8 := UInt8.ofNat (n % 256).toNat
def vF : Nat → Nat → List UInt8
  | 0, v => [by8 (v : Int)]
  | k + 1, v => if v ≤ 127 then [by8 (v : Int)] else by8 ((v % 128 + 128 : Nat) : Int) :: vF k (v / 128)
def vB (v : Nat) : List UInt8 := vF 9 v
/-- A number read off bytes, of which it takes so many at most; and how many it took. -/
def dec : Nat → List UInt8 → Option (Nat × Nat)
  | 0, _ => none
  | _ + 1, [] => none
  | k + 1, b :: l => if b.toNat < 128 then some (b.toNat, 1) else (dec k l).map fun r => (b.toNat - 128 + 128 * r.1, r.2 + 1)
/-- What is read there, when it is a number in its own bytes. -/
def rdV (l : List UInt8) : Option (Nat × Nat) := match dec 5 l with
  | some (v, m) => if v ≤ 1000000000 ∧ vB v = l.take m then some (v, m) else none
  | none => none
abbrev St := Nat × Bool
def nm (T : List UInt8) (s : St) : Int × St :=
  if s.2 then (0, (s.1, true)) else match rdV (T.drop s.1) with
  | some (v, m) => ((v : Int), (s.1 + m, false))
  | none => (0, (s.1, true))
def on (T : List UInt8) (s : St) : Int × St :=
  if s.2 then (0, (s.1, true)) else match T[s.1]? with
  | some b => ((b.toNat : Int), (s.1 + 1, false))
  | none => (0, (s.1, true))
def edF (T : List UInt8) : Nat → St → List Ed → St × List Ed
  | 0, s, out => (s, out)
  | k + 1, s, out => if s.2 then (s, out) else edF T k (on T (on T s).2).2 (out ++ [((on T s).1, (on T (on T s).2).1)])
def q0 (T : List UInt8) : Int × St := nm T (0, false)
def q1 (T : List UInt8) : Int × St := on T (q0 T).2
def q2 (T : List UInt8) : Int × St := nm T (q1 T).2
def q3 (T : List UInt8) (K : Nat) : St × List Ed := edF T K (nm T (q2 T).2).2 []
def lbF (T : List UInt8) : Nat → St → List Int → St × List Int
  | 0, s, out => (s, out)
  | k + 1, s, out => lbF T k (on T s).2 (out ++ [(on T s).1])
def q4 (T : List UInt8) (K : Nat) : St × List Ed := edF T K (nm T (q1 T).2).2 []
def q5 (T : List UInt8) (K N : Nat) : St × List Int := lbF T N (q4 T K).1 []
def blA (a : An) : Bool := decide (a.1 = 0) && (!a.2.1 && (decide (a.2.2.1.length = 0) && decide (a.2.2.2.length = 0)))
theorem len0 {α : Type} (l : List α) : decide ((l.length : Int) = 0) = decide (l.length = 0) := decide_eq_decide.2 (by omega)
theorem h_inoAnswer (a : An) : g_inoAnswer a = some (blA a, ()) := by
  show f_inoAnswer BIG _ = _
  rw [e_inoAnswer, len0, len0]
  unfold blA
  cases decide (a.1 = 0) <;> cases a.2.1 <;> cases decide (a.2.2.1.length = 0) <;> rfl
theorem stopL {X B : Type} {F : (X → Option B) → X → Option B} (x : X) (b : B) (h : ∀ self, F self x = some b) : loopT BIG F x = some b :=
  loop_eq (fun y => y = x) (fun _ => 0) (fun _ => b) (fun self y hy hs => by subst hy; exact h self) (by decide) rfl
theorem stopB {X B C : Type} {F : (X → Option B) → X → Option B} {x : X} {k : B → Option C} {o : Option C} (b : B) (h : ∀ self, F self x = some b) (h2 : k b = o) : Option.bind (loopT BIG F x) k = o := by rw [stopL x b h]; exact h2
theorem h_sl01PlaceN (c : Cur) (n : Int) (hc : curOk c) (hn : n ≤ 1000000) : ∃ r c', g_sl01Place (c, n) = some (r, c') ∧ curOk c' := by
  have e : g_sl01Place (c, n) = f_sl01Place BIG (c, n) := rfl
  rw [e, e_sl01Place]
  obtain ⟨b, c1, k1, o1⟩ := h_sl01Once c 15 hc (by omega)
  rw [k1, Option.bind_some]
  cases b with
  | true =>
    obtain ⟨r2, c2, k2, o2⟩ := h_sl01PickInt c1 [(-1 : Int), n, IntKind.wrap .i64 (n + (1 : Int)), (9223372036854775807 : Int), (-9223372036854775808 : Int)] o1 (by simp) (by simp)
    simp only [cond_true, k2, Option.bind_some]
    exact ⟨_, _, rfl, o2⟩
  | false =>
    obtain ⟨r2, c2, k2, o2, _⟩ := h_sl01Below c1 n o1 hn
    simp only [cond_false, k2, Option.bind_some]
    exact ⟨_, _, rfl, o2⟩
theorem h_sDrawShardNew (a : List Int) (ha : a.length ≤ 1048576) : ∃ p q, g_sDrawShardNew a = some ((p, q), ()) := by
  have e : g_sDrawShardNew a = f_sDrawShardNew BIG a := rfl
  rw [e, e_sDrawShardNew]
  obtain ⟨c0, k0, o0⟩ := h_sl01New a ha
  obtain ⟨p, c1, k1, o1⟩ := h_sl01PlaceN c0 4 o0 (by omega)
  obtain ⟨q, c2, k2, o2⟩ := h_sl01PlaceN c1 13 o1 (by omega)
  simp only [k0, Option.bind_some, k1, k2]
  exact ⟨p, q, rfl⟩
theorem em_iforest (n l : Int) : g_iforest ((n, []), l) = some ([], ()) := by
  show f_iforest BIG _ = _
  rw [e_iforest]; exact stopB [] (fun self => rfl) rfl
theorem em_itreeEdges (n : Int) : g_itreeEdges (n, []) = some ([], ()) := by
  show f_itreeEdges BIG _ = _
  rw [e_itreeEdges]; exact stopB [] (fun self => rfl) rfl
theorem em_irings (n : Nat) (hn : n ≤ 12) : g_irings ((n : Int), []) = some (false, ()) := by
  show f_irings BIG _ = _
  rw [e_irings, h_ifirst n (by omega), Option.bind_some]; exact stopB (Sum.inl ()) (fun self => rfl) rfl
theorem em_ilabelsAt (n : Nat) (l : Int) (hn : n ≤ 12) : g_ilabelsAt (((n : Int), []), l) = some (lab0 n, ()) := by
  show f_ilabelsAt BIG _ = _
  rw [e_ilabelsAt, h_ifirst n (by omega), Option.bind_some, em_iforest, Option.bind_some]; exact stopB (lab0 n) (fun self => rfl) rfl
theorem em_ilevelOk (n : Nat) (l : Int) (hn : n ≤ 12) : g_ilevelOk (((n : Int), []), l) = some (true, ()) := by
  show f_ilevelOk BIG _ = _
  rw [e_ilevelOk, em_ilabelsAt n l hn, Option.bind_some, em_iforest, Option.bind_some]; exact stopB (Sum.inl ()) (fun self => rfl) rfl
theorem em_iWebOk (n : Nat) (h1 : 1 ≤ n) (hn : n ≤ 12) : g_iWebOk ((n : Int), []) = some (true, ()) := by
  show f_iWebOk BIG _ = _
  rw [e_iWebOk]
  have hg : g_iGraphOf ((n : Int), ([] : List Led)) = some (((n : Int), []), ()) := h_iGraphOf n [] (by simp)
  rw [hg, Option.bind_some, w_iGraphOk _ _ (by simp), Option.bind_some]
  have hB : grB (n : Int) [] = true := by
    unfold grB
    rw [show inB (n : Int) 1 12 = true from inB_t.2 (by omega), show eOk (n : Int) [] = true from rfl]
    rfl
  rw [hB]
  simp only [Bool.not_true, cond_false]
  rw [em_itreeEdges, Option.bind_some, em_irings n hn, Option.bind_some, Option.bind_some, cond_false]
  refine stopB (Sum.inl ()) (fun self => rfl) ?_
  have hm : maxLen = 9223372036854775807 := by decide
  have L := loop_eq (B := Unit ⊕ Bool) (F := fun self19 (x18 : Int) =>
     bif decide (x18 ≤ (4 : Int)) then
      Option.bind (g_ilevelOk (((n : Int), []), x18)) fun r20 =>
      bif !r20.1 then
       some (Sum.inr false)
      else self19 (IntKind.wrap .i64 (x18 + (1 : Int)))
     else some (Sum.inl ())) (fun x => 1 ≤ x ∧ x ≤ 5) (fun x => (5 - x).toNat) (fun _ => Sum.inl ()) (fun self x hx hs => by
    by_cases h : x ≤ 4
    · simp only [h, decide_true, cond_true]
      rw [em_ilevelOk n x hn, Option.bind_some, wr (by omega) (by omega)]
      exact hs _ (by omega) (by omega)
    · simp only [h, decide_false, cond_false]) (n := BIG) (x := (1 : Int)) (by decide) (by omega)
  simp only
  rw [L]
  rfl
theorem law_lFnShardNew (a : List Int) (h : a.length ≤ maxLen) : g_lFnShardNew a = some (true, ()) := by
  show f_lFnShardNew BIG _ = _
  rw [e_lFnShardNew]
  have hb : g_lbig a = some (decide ((1048576 : Int) < (a.length : Int)), ()) := by
    show f_lbig BIG _ = _
    rw [e_lbig]
  rw [hb, Option.bind_some]
  by_cases hl : a.length ≤ 1048576
  case neg => rw [decide_eq_true (by omega)]; rfl
  rw [decide_eq_false (by omega), cond_false]
  obtain ⟨p, q, k⟩ := h_sDrawShardNew a hl
  rw [k, Option.bind_some]
  simp only
  rw [h_iShardNew, h_sShardNew, Option.bind_some, Option.bind_some]
  cases hp : inB p 1 3 && inB q 1 12 with
  | false => rfl
  | true =>
    simp only [Bool.and_eq_true, inB_t] at hp
    simp only [if_true, beq_self_eq_true, Bool.not_true, cond_false]
    have hs : g_iShardOk (p, q, [], 0, false, [], []) = some (true, ()) := by
      show f_iShardOk BIG _ = _
      rw [e_iShardOk, h_iin']
      have hw := em_iWebOk q.toNat (by omega) (by omega)
      rw [Int.toNat_of_nonneg (by omega)] at hw
      simp only [hw, Option.bind_some, show inB p 1 3 = true from inB_t.2 (by omega), Bool.not_true, cond_false]
      rw [h_inoAnswer (0, false, [], [])]
      rfl
    have ho := h_iOwned p q [] 0 false [] [] (by simp)
    rw [hs, Option.bind_some, ho]
    simp
end Go.Fw
