/- What the given functions come to. No conditions. -/
import Derived.Test.YtjicinmnfkinhaaM0
set_option linter.unusedVariables false
set_option linter.unusedSimpArgs false
set_option linter.unusedSectionVars false
namespace Go.Fw
section
variable {a b J : List Int} {p q : Int} (h : JoinP a b p q J)
include h
theorem joinP_ok : TrT J := by
  obtain ⟨r, A, J', m, X, Y, D, rfl, rfl, h1, h2, h3⟩ := h
  exact ⟨r, J', rfl, h2⟩
theorem joinP_mem (x : Int) : x ∈ J ↔ x ∈ a ∨ x ∈ b := by
  obtain ⟨r, A, J', m, X, Y, D, rfl, rfl, h1, h2, h3⟩ := h
  rw [h1.spmem, h3]
theorem joinP_size : (VS J).length = (VS a).length + (VS b).length := by
  obtain ⟨r, A, J', m, X, Y, D, rfl, rfl, h1, h2, h3⟩ := h
  rw [h1.spsize h2, VS_congr h3]
theorem joinP_adj : Adj J (ed p q) := by
  obtain ⟨r, A, J', m, X, Y, D, rfl, rfl, h1, h2, h3⟩ := h
  refine ⟨X.length, p, q, h1.atD, ?_, rfl⟩
  have := h1.inn (m := 0) (by simp [tr])
  rw [Nat.add_zero] at this
  rw [this]; rfl
end
/-- Two tours made of one. -/
structure SplP (t a b : List Int) : Prop where
  spa : TrT a
  spb : TrT b
  spd : ∀ x, x ∈ b → x ∉ a
  spm : ∀ x, x ∈ t ↔ x ∈ a ∨ x ∈ b
theorem SpF.splp {r : Int} {F : FT} {k : Nat} {X : List Int} {p w : Int} {C : FT} {Y : List Int} {F' : FT} (h : SpF r F k X p w C Y F') (ht : TrOk r F) : SplP (tr r F) (tr r F') (tr w C) := by
  obtain ⟨hC, hF, hd⟩ := h.nd ht
  exact ⟨⟨r, F', rfl, hF⟩, ⟨w, C, rfl, hC⟩, hd, h.spmem⟩
/-- The pieces of a forest when two trees become one. -/
theorem wo_len {n : Nat} {ts : List (List Int)} (h : FoL n ts) {a b : List Int} (ha : a ∈ ts) (hb : b ∈ ts) (hab : a ≠ b) : (wo ts a b).length + 2 = ts.length := by
  have hn : (wo ts a b).Nodup := h.flnd.filter _
  have hn2 : (a :: b :: wo ts a b).Nodup := by
    rw [List.nodup_cons, List.nodup_cons, List.mem_cons, mem_wo, mem_wo]
    exact ⟨fun g => by
      rcases g with g | g
      · exact hab g
      · exact g.2.1 rfl, fun g => g.2.2 rfl, hn⟩
  have l1 := nodup_sub ts (a :: b :: wo ts a b) h.flnd fun x hx => by
    rw [List.mem_cons, List.mem_cons, mem_wo]
    by_cases h1 : x = a
    · exact .inl h1
    by_cases h2 : x = b
    · exact .inr (.inl h2)
    exact .inr (.inr ⟨hx, h1, h2⟩)
  have l2 := nodup_sub (a :: b :: wo ts a b) ts hn2 fun x hx => by
    rw [List.mem_cons, List.mem_cons, mem_wo] at hx
    rcases hx with rfl | rfl | hx
    · exact ha
    · exact hb
    · exact hx.1
  simp only [List.length_cons] at l1 l2
  omega
theorem FoL.fl_ins {n : Nat} {ts : List (List Int)} (h : FoL n ts) {a b J : List Int} (ha : a ∈ ts) (hb : b ∈ ts) (hJ : TrT J) (mJ : ∀ x, x ∈ J → x ∈ a ∨ x ∈ b) : ∀ t, t ∈ wo ts a b → lsv t ≠ lsv J := by
  intro t ht
  obtain ⟨h1, h2, h3⟩ := mem_wo.1 ht
  refine lsv_ne (h.flok t h1) hJ fun x hx hx' => ?_
  rcases mJ x hx' with g | g
  · exact h.fldj t h1 a ha h2 x hx g
  · exact h.fldj t h1 b hb h3 x hx g
/-- Linked: the program's way. -/
theorem FoL.fl_link {n : Nat} {ts : List (List Int)} (h : FoL n ts) {a b J : List Int} {p q : Int} (ha : a ∈ ts) (hb : b ∈ ts) (hJ : JoinP a b p q J) : FoL n (insT J (wo ts a b)) :=
  h.fljoin ha hb (joinP_ok hJ) (joinP_mem hJ) (fun t => mem_insT) (insT_so (h.flwo_so a b) (h.fl_ins ha hb (joinP_ok hJ) fun x hx => (joinP_mem hJ x).1 hx))
/-- Cut: the program's way. -/
theorem FoL.fl_cut {n : Nat} {ts : List (List Int)} (h : FoL n ts) {a b J : List Int} (hJ : J ∈ ts) (hs : SplP J a b) : FoL n (insT b (insT a (wo ts J J))) := by
  have o1 := h.fl_ins hJ hJ hs.spa fun x hx => .inl ((hs.spm x).2 (.inl hx))
  have o2 := h.fl_ins hJ hJ hs.spb fun x hx => .inl ((hs.spm x).2 (.inr hx))
  refine h.flsplit hJ hs.spa hs.spb hs.spd hs.spm (fun t => ?_) (insT_so (insT_so (h.flwo_so J J) o1) fun t ht => ?_)
  · rw [mem_insT, mem_insT]
    constructor
    · rintro (g | g | g)
      · exact .inr (.inl g)
      · exact .inl g
      · exact .inr (.inr g)
    · rintro (g | g | g)
      · exact .inr (.inl g)
      · exact .inl g
      · exact .inr (.inr g)
  · rcases mem_insT.1 ht with rfl | ht
    · exact fun g => lsv_ne hs.spb hs.spa hs.spd g.symm
    · exact o2 t ht
/-- Linked and cut: the reference's way. -/
theorem FoL.fl_linkS {n : Nat} {ts : List (List Int)} (h : FoL n ts) {a b J : List Int} {p q : Int} (ha : a ∈ ts) (hb : b ∈ ts) (hJ : JoinP a b p q J) : FoL n (selT n (wo ts a b ++ [J])) := by
  have hok := joinP_ok hJ
  have o1 := h.fl_ins ha hb hok fun x hx => (joinP_mem hJ x).1 hx
  have hrg : ∀ t, t ∈ ts → 0 ≤ lsv t ∧ lsv t < n := fun t ht => ⟨((h.flok t ht).rg _ (lsv_mem (h.flok t ht))).1, h.flrg t ht _ (lsv_mem (h.flok t ht))⟩
  have hrJ : 0 ≤ lsv J ∧ lsv J < n := by
    refine ⟨(hok.rg _ (lsv_mem hok)).1, ?_⟩
    rcases (joinP_mem hJ _).1 (lsv_mem hok) with g | g
    · exact h.flrg a ha _ g
    · exact h.flrg b hb _ g
  refine h.fljoin ha hb hok (joinP_mem hJ) (fun t => ?_) (selT_so ?_ (fun x hx y hy hxy => ?_) n)
  · rw [mem_selT, List.mem_append, List.mem_singleton]
    constructor
    · rintro ⟨g | g, _⟩
      · exact .inr g
      · exact .inl g
    · rintro (rfl | g)
      · exact ⟨.inr rfl, hrJ⟩
      · exact ⟨.inl g, hrg t (mem_wo.1 g).1⟩
  · rw [List.nodup_append]
    refine ⟨h.flnd.filter _, by simp, fun x hx y hy hxy => ?_⟩
    rw [List.mem_singleton] at hy
    subst hxy hy
    exact o1 x hx rfl
  · rw [List.mem_append, List.mem_singleton] at hx hy
    rcases hx with hx | rfl
    · rcases hy with hy | rfl
      · exact lsv_ne (h.flok x (mem_wo.1 hx).1) (h.flok y (mem_wo.1 hy).1) (h.fldj x (mem_wo.1 hx).1 y (mem_wo.1 hy).1 hxy)
      · exact o1 x hx
    · rcases hy with hy | rfl
      · exact (o1 y hy).symm
      · exact absurd rfl hxy
theorem FoL.fl_cutS {n : Nat} {ts : List (List Int)} (h : FoL n ts) {a b J : List Int} (hJ : J ∈ ts) (hs : SplP J a b) : FoL n (selT n (wo ts J J ++ [a, b])) := by
  have o1 := h.fl_ins hJ hJ hs.spa fun x hx => .inl ((hs.spm x).2 (.inl hx))
  have o2 := h.fl_ins hJ hJ hs.spb fun x hx => .inl ((hs.spm x).2 (.inr hx))
  have hab := lsv_ne hs.spb hs.spa hs.spd
  have hrg : ∀ t, t ∈ ts → 0 ≤ lsv t ∧ lsv t < n := fun t ht => ⟨((h.flok t ht).rg _ (lsv_mem (h.flok t ht))).1, h.flrg t ht _ (lsv_mem (h.flok t ht))⟩
  have hra : 0 ≤ lsv a ∧ lsv a < n := ⟨(hs.spa.rg _ (lsv_mem hs.spa)).1, h.flrg J hJ _ ((hs.spm _).2 (.inl (lsv_mem hs.spa)))⟩
  have hrb : 0 ≤ lsv b ∧ lsv b < n := ⟨(hs.spb.rg _ (lsv_mem hs.spb)).1, h.flrg J hJ _ ((hs.spm _).2 (.inr (lsv_mem hs.spb)))⟩
  have hm : ∀ t, t ∈ wo ts J J ++ [a, b] ↔ t = a ∨ t = b ∨ t ∈ wo ts J J := fun t => by
    simp only [List.mem_append, List.mem_cons, List.not_mem_nil, or_false]
    constructor
    · rintro (g | g | g)
      · exact .inr (.inr g)
      · exact .inl g
      · exact .inr (.inl g)
    · rintro (g | g | g)
      · exact .inr (.inl g)
      · exact .inr (.inr g)
      · exact .inl g
  refine h.flsplit hJ hs.spa hs.spb hs.spd hs.spm (fun t => ?_) (selT_so ?_ (fun x hx y hy hxy => ?_) n)
  · rw [mem_selT, hm]
    refine ⟨fun g => g.1, fun g => ⟨g, ?_⟩⟩
    rcases g with rfl | rfl | g
    · exact hra
    · exact hrb
    · exact hrg t (mem_wo.1 g).1
  · rw [List.nodup_append]
    refine ⟨h.flnd.filter _, ?_, fun x hx y hy hxy => ?_⟩
    · rw [List.nodup_cons, List.mem_singleton]
      exact ⟨fun e => hab (by rw [e]), by simp⟩
    · subst hxy
      rw [List.mem_cons, List.mem_singleton] at hy
      rcases hy with rfl | rfl
      · exact o1 x hx rfl
      · exact o2 x hx rfl
  · rw [hm] at hx hy
    rcases hx with rfl | rfl | hx <;> rcases hy with rfl | rfl | hy
    · exact absurd rfl hxy
    · exact hab.symm
    · exact (o1 y hy).symm
    · exact hab
    · exact absurd rfl hxy
    · exact (o2 y hy).symm
    · exact o1 x hx
    · exact o2 x hx
    · exact lsv_ne (h.flok x (mem_wo.1 hx).1) (h.flok y (mem_wo.1 hy).1) (h.fldj x (mem_wo.1 hx).1 y (mem_wo.1 hy).1 hxy)
/-- Trees of one vertex each. -/
def ones (n : Nat) : List (List Int) := (List.range n).map fun (v : Nat) => [(v : Int)]
theorem one_ok {v : Int} (h0 : 0 ≤ v) (h1 : v ≤ 11) : TrT [v] := ⟨v, .nil, rfl, ⟨by simp [FT.vs], fun x hx => by simp [FT.vs] at hx; omega⟩⟩
theorem lsv_one {v : Int} (h0 : 0 ≤ v) (h1 : v ≤ 11) : lsv [v] = v := by
  have := lsv_mem (one_ok h0 h1)
  rwa [List.mem_singleton] at this
theorem mem_ones {n : Nat} {t : List Int} : t ∈ ones n ↔ ∃ v : Nat, v < n ∧ t = [(v : Int)] := by
  unfold ones
  rw [List.mem_map]
  constructor
  · rintro ⟨v, h1, h2⟩
    exact ⟨v, List.mem_range.1 h1, h2.symm⟩
  · rintro ⟨v, h1, h2⟩
    exact ⟨v, List.mem_range.2 h1, h2.symm⟩
theorem ones_ok {n : Nat} (h : n ≤ 12) : FoL n (ones n) := by
  refine ⟨fun t ht => ?_, fun t ht x hx => ?_, fun a ha b hb hab x hx hx' => ?_, fun x h0 hx => ?_, ?_⟩
  · obtain ⟨v, h1, rfl⟩ := mem_ones.1 ht
    exact one_ok (by omega) (by omega)
  · obtain ⟨v, h1, rfl⟩ := mem_ones.1 ht
    rw [List.mem_singleton] at hx
    omega
  · obtain ⟨v, h1, rfl⟩ := mem_ones.1 ha
    obtain ⟨w, h2, rfl⟩ := mem_ones.1 hb
    rw [List.mem_singleton] at hx hx'
    exact hab (by rw [← hx, ← hx'])
  · exact ⟨[x], mem_ones.2 ⟨x.toNat, by omega, by rw [Int.toNat_of_nonneg h0]⟩, by simp⟩
  · unfold ones
    rw [List.pairwise_map]
    refine List.Pairwise.imp_of_mem (fun {a b} ha hb hab => ?_) List.pairwise_lt_range
    rw [List.mem_range] at ha hb
    rw [lsv_one (by omega) (by omega), lsv_one (by omega) (by omega)]
    omega
theorem ones_succ (n : Nat) : ones (n + 1) = ones n ++ [[(n : Int)]] := by
  unfold ones
  rw [List.range_succ, List.map_append]
  rfl
/-- What of each vertex tells its tree. -/
structure PtL (n : Nat) (ts : List (List Int)) (i : Nat) (L : List Int) : Prop where
  ptl : L.length = n
  ptv : ∀ (j : Nat) (t : List Int), j < i → ts[j]? = some t → ∀ x, x ∈ t → L[x.toNat]? = some (lsv t)
theorem ptl_eq {n : Nat} {ts us : List (List Int)} (h : FoL n ts) {L M : List Int} (hL : PtL n ts ts.length L) (hM : PtL n us us.length M) (hx : ∀ t, t ∈ ts → ∀ x, x ∈ t → ∃ u, u ∈ us ∧ x ∈ u ∧ lsv u = lsv t) : L = M := by
  refine List.ext_getElem? fun i => ?_
  by_cases hi : i < n
  · obtain ⟨t, t1, t2⟩ := h.flcv (i : Int) (by omega) (by omega)
    obtain ⟨u, u1, u2, u3⟩ := hx t t1 _ t2
    obtain ⟨j, hj, ej⟩ := List.mem_iff_getElem.1 t1
    obtain ⟨k, hk, ek⟩ := List.mem_iff_getElem.1 u1
    have e1 := hL.ptv j t hj (by rw [List.getElem?_eq_getElem hj, ej]) _ t2
    have e2 := hM.ptv k u hk (by rw [List.getElem?_eq_getElem hk, ek]) _ u2
    rw [Int.toNat_natCast] at e1 e2
    rw [e1, e2, u3]
  · rw [List.getElem?_eq_none (by rw [hL.ptl]; omega), List.getElem?_eq_none (by rw [hM.ptl]; omega)]
/-- The forest that was, cut where it was linked. -/
theorem fl_back {n : Nat} {ts : List (List Int)} (h : FoL n ts) {a b J y : List Int} (ha : a ∈ ts) (hb : b ∈ ts) (mJ : ∀ x, x ∈ J ↔ x ∈ a ∨ x ∈ b) (my : ∀ x, x ∈ y ↔ x ∈ b) (hJ : TrT J) :
    ∀ t, t ∈ ts → ∀ x, x ∈ t → ∃ u, u ∈ insT y (insT a (wo (insT J (wo ts a b)) J J)) ∧ x ∈ u ∧ lsv u = lsv t := by
  intro t ht x hx
  by_cases hta : t = a
  · subst hta
    exact ⟨t, mem_insT.2 (.inr (mem_insT.2 (.inl rfl))), hx, rfl⟩
  by_cases htb : t = b
  · subst htb
    exact ⟨y, mem_insT.2 (.inl rfl), (my x).2 hx, lsv_congr my⟩
  have htJ : t ≠ J := by
    rintro rfl
    rcases (mJ x).1 hx with g | g
    · exact h.fldj t ht a ha hta x hx g
    · exact h.fldj t ht b hb htb x hx g
  exact ⟨t, mem_insT.2 (.inr (mem_insT.2 (.inr (mem_wo.2 ⟨mem_insT.2 (.inr (mem_wo.2 ⟨ht, hta, htb⟩)), htJ, htJ⟩)))), hx, rfl⟩
theorem u_iVertsOf {t : List Int} (h : TrT t) : g_iVertsOf t = some (VS t, ()) := by
  obtain ⟨V, v1, v2, v3, _⟩ := w_iVertsOf t (by have := h.len; omega)
  rw [v1, sorted_eq v2 (VS_so t) fun x => by rw [v3, VS_mem h]]
theorem u_iTourOk {t : List Int} (h : TrT t) : g_iTourOk t = some (true, ()) := by
  obtain ⟨v, c, rfl, h⟩ := h
  exact w_iTourOk h
theorem u_iJoinTours {a b : List Int} {p q : Int} (ha : TrT a) (hb : TrT b) (hd : ∀ x, x ∈ b → x ∉ a) (hp : p ∈ a) (hq : q ∈ b) : ∃ J, JoinP a b p q J ∧ g_iJoinTours (a, p, b, q) = some ((J, true), ()) := by
  have hm : maxLen = 9223372036854775807 := by decide
  obtain ⟨r, A, rfl, hA⟩ := ha
  obtain ⟨w, C, rfl, hC⟩ := hb
  have hAl := hA.len
  have hCl := hC.len
  have hsz : (tr r A).length + (tr w C).length ≤ 100 := by rw [tr_len, tr_len]; omega
  obtain ⟨k2, hk2, hx2, e2⟩ := w_iReroot hC (x := q) hq
  obtain ⟨D, eD, hD, mD⟩ := rot_tr hC hk2 hx2
  have lD := (rot_head hk2 hx2).2
  rw [eD] at e2 lD
  have hpl : ¬ (if (tr r A).findIdx (fun y => decide (y = p)) < (tr r A).length then ((tr r A).findIdx (fun y => decide (y = p)) : Int) else -1) < 0 := by
    rw [if_pos (List.findIdx_lt_length.2 ⟨p, hp, by simp⟩)]; omega
  show ∃ J, _ ∧ f_iJoinTours BIG _ = _
  rw [e_iJoinTours, e2, Option.bind_some, w_iTourOk hA, Option.bind_some, h_iplaceOf _ _ (by omega), Option.bind_some]
  simp only [Bool.not_true, cond_false, Option.bind_some, decide_eq_false hpl]
  rw [hiLoop (tr r A) (by omega) (fun y => decide (y ∈ tr w C)) ([], false) (fun self i y hy => ?_) (fun self => by simp)]
  · have : (tr r A).any (fun y => decide (y ∈ tr w C)) = false := by
      rw [List.any_eq_false]
      intro y hy
      rw [decide_eq_true_eq]
      exact fun h => hd y h hy
    rw [this]
    simp only [Bool.false_eq_true, if_false, Option.bind_some]
    obtain ⟨ks, hks, hpk⟩ := List.getElem_of_mem hp
    have hw0 : IntKind.wrap .i64 (((tr r A).length : Int) - 1) = (((tr r A).length - 1 : Nat) : Int) := by rw [wr (by omega) (by omega)]; omega
    rw [hw0]
    refine loop_bind (P := fun o => ∃ J, JoinP (tr r A) (tr w C) p q J ∧ o = some ((J, true), ())) (fun (s : Int) => ∃ m : Nat, s = (m : Int) ∧ m < (tr r A).length ∧ ks ≤ m) (fun s => s.toNat) (fun _ (b : Int) => ∃ m : Nat, b = (m : Int) ∧ (tr r A)[m]? = some p) (by simp [BIG]; omega) ⟨_, rfl, by omega, by omega⟩ (fun self s hs hself => ?_) (fun b hb => ?_)
    · obtain ⟨m, rfl, m1, m2⟩ := hs
      rw [bnd_nat m1, List.getElem?_eq_getElem m1, Option.bind_some]
      by_cases hmp : (tr r A)[m] = p
      · rw [decide_eq_true hmp]
        exact ⟨_, rfl, m, rfl, by rw [List.getElem?_eq_getElem m1, hmp]⟩
      · rw [decide_eq_false hmp]
        have : m ≠ ks := fun h => hmp (by subst h; exact hpk)
        have hw1 : IntKind.wrap .i64 ((m : Int) - 1) = ((m - 1 : Nat) : Int) := by rw [wr (by omega) (by omega)]; omega
        simp only [Bool.not_false, cond_true, hw1]
        exact hself _ ⟨m - 1, rfl, by omega, by omega⟩ (by simp; omega)
    · obtain ⟨m, rfl, m1⟩ := hb
      have mlt := (List.getElem?_eq_some_iff.1 m1).1
      have hJ := joinP_mk hA hd m1 hD mD
      refine ⟨_, hJ, ?_⟩
      have e3 : List.take ((tr r A).length - m) (List.drop m (tr r A)) = (tr r A).drop m := List.take_of_length_le (by simp)
      rw [wr1 (by omega)]
      simp only [Int.toNat_natCast, Nat.sub_zero, List.drop_zero, e3]
      rw [decide_eq_true (by omega), cond_true, decide_eq_true (by omega), cond_true, w_icopyInts _ (by rw [List.length_take]; omega), Option.bind_some]
      simp only
      rw [decide_eq_true (by rw [List.length_take]; omega), cond_true, decide_eq_true (by omega), cond_true, decide_eq_true (by omega), cond_true, decide_eq_true (by simp only [List.length_append, List.length_take, List.length_drop]; omega), cond_true]
  · have hi := (List.getElem?_eq_some_iff.1 hy).1
    simp only [show ((i : Int) < ((tr r A).length : Int)) from by omega, decide_true, cond_true]
    rw [bnd_nat hi, hy, Option.bind_some, h_ihasInt _ _ (by omega), Option.bind_some, wr1 (by omega)]
    by_cases h : y ∈ tr w C <;> simp [h]
/-- Split where it was joined. -/
theorem u_iSplitTour {a b J : List Int} {p q : Int} (h : JoinP a b p q J) : ∃ y, SplP J a y ∧ (∀ x, x ∈ y ↔ x ∈ b) ∧ g_iSplitTour (J, p, q) = some ((a, y, true), ()) := by
  obtain ⟨r, A, J', m, X, Y, D, rfl, rfl, h1, h2, h3⟩ := h
  exact ⟨tr q D, h1.splp h2, h3, w_iSplitTour h1 h2 (.inl ⟨rfl, rfl⟩)⟩
theorem wo_take {ts : List (List Int)} {i : Nat} {x : List Int} (hx : ts[i]? = some x) (p q : List Int) : wo (ts.take (i + 1)) p q = wo (ts.take i) p q ++ (if x ≠ p ∧ x ≠ q then [x] else []) := by
  unfold wo
  rw [List.take_add_one, hx, List.filter_append]
  congr 1
  by_cases h1 : x = p
  · simp [h1]
  · by_cases h2 : x = q
    · simp [h2]
    · simp [h1, h2]
theorem u_iputTour {t : List Int} {l : List (List Int)} (ht : TrT t) (hl : ∀ x, x ∈ l → TrT x) (hsz : l.length ≤ 100) : g_iputTour (l, t) = some (insT t l, ()) := by
  have hm : maxLen = 9223372036854775807 := by decide
  have hV := VS_ne ht
  show f_iputTour BIG _ = _
  rw [e_iputTour, u_iVertsOf ht, Option.bind_some, bnd_ok (by omega) (by simp only; omega)]
  simp only
  rw [show Int.toNat 0 = 0 from rfl, lsv_get ht, Option.bind_some]
  refine loop_bind (x := (0 : Int)) (P := fun o => o = some (insT t l, ())) (fun (s : Int) => ∃ k : Nat, s = (k : Int) ∧ k ≤ l.length ∧ ∀ j x, j < k → l[j]? = some x → lsv x < lsv t) (fun s => l.length - s.toNat)
    (fun _ (b : Int) => ∃ k : Nat, b = (k : Int) ∧ k ≤ l.length ∧ (∀ j x, j < k → l[j]? = some x → lsv x < lsv t) ∧ ∀ x, l[k]? = some x → ¬ lsv x < lsv t) (by simp [BIG]; omega) ⟨0, rfl, by omega, fun j x hj => by omega⟩ (fun self s hx hs => ?_) (fun b hb => ?_)
  · obtain ⟨k, rfl, k1, k2⟩ := hx
    by_cases hk : k < l.length
    · have hp := List.getElem?_eq_getElem hk
      generalize hpe : l[k] = p at hp
      have hg := hl p (List.mem_of_getElem? hp)
      have hVp := VS_ne hg
      simp only [show ((k : Int) < (l.length : Int)) from by omega, decide_true, cond_true]
      rw [bnd_nat hk, hp, Option.bind_some, u_iVertsOf hg, Option.bind_some, bnd_ok (by omega) (by simp only; omega)]
      simp only
      rw [show Int.toNat 0 = 0 from rfl, lsv_get hg, Option.bind_some, Option.bind_some]
      by_cases hlt : lsv p < lsv t
      · rw [decide_eq_true hlt, cond_true, wr1 (by omega)]
        refine hs _ ⟨k + 1, rfl, hk, fun j x hj hx => ?_⟩ (by simp; omega)
        by_cases hjk : j = k
        · subst hjk
          rw [hp] at hx
          cases hx
          exact hlt
        · exact k2 j x (by omega) hx
      · rw [decide_eq_false hlt, cond_false]
        exact ⟨_, rfl, k, rfl, k1, k2, fun x hx => by rw [hp] at hx; cases hx; exact hlt⟩
    · simp only [show ¬ ((k : Int) < (l.length : Int)) from by omega, decide_false, cond_false, Option.bind_some]
      exact ⟨_, rfl, k, rfl, k1, k2, fun x hx => absurd (List.getElem?_eq_some_iff.1 hx).1 hk⟩
  · obtain ⟨k, rfl, k1, k2, k3⟩ := hb
    have e3 : List.take (l.length - k) (List.drop k l) = l.drop k := List.take_of_length_le (by simp)
    simp only [Int.toNat_natCast, Nat.sub_zero, List.drop_zero, e3]
    rw [decide_eq_true (by omega), cond_true, decide_eq_true (by omega), cond_true, decide_eq_true (by rw [List.length_take]; omega), cond_true, decide_eq_true (by simp only [List.length_take, List.length_cons, List.length_nil]; omega), cond_true, decide_eq_true (by omega), cond_true,
      decide_eq_true (by simp only [List.length_append, List.length_take, List.length_cons, List.length_nil, List.length_drop]; omega), cond_true, ← insT_at k1 k2 k3]
    simp
section
variable {n : Nat} {ts : List (List Int)} (h : FoL n ts)
include h
theorem v_iForestOk (h1 : 1 ≤ n) (h12 : n ≤ 12) : g_iForestOk ((n : Int), ts) = some (true, ()) := by
  have hm : maxLen = 9223372036854775807 := by decide
  have hsz := h.fllen
  show f_iForestOk BIG _ = _
  rw [e_iForestOk, h_iin', show inB (n : Int) 1 12 = true from inB_t.2 (by omega), Option.bind_some]
  simp only [Bool.not_true, cond_false]
  refine loop_bind (x := (([] : List Int), (0 : Int))) (P := fun o => o = some (true, ())) (fun (s : List Int × Int) => ∃ i : Nat, s.2 = (i : Int) ∧ i ≤ ts.length ∧ Met ts i s.1)
    (fun s => ts.length - s.2.toNat) (fun _ (b : List Int ⊕ Bool) => ∃ acc : List Int, b = .inl acc ∧ acc.length = n) (by simp [BIG]; omega) ⟨0, rfl, by omega, Met.zero ts⟩ (fun self s hx hs => ?_) (fun b hb => by obtain ⟨acc, rfl, hb⟩ := hb; simp [hb])
  obtain ⟨acc, jj⟩ := s
  obtain ⟨i, k1, k2, k4⟩ := hx
  simp only at k1 k2 k4 hs ⊢
  subst k1
  have hal := (h.met_lt k4).2
  by_cases hi : i < ts.length
  · have hp := List.getElem?_eq_getElem hi
    generalize hpe : ts[i] = p at hp
    have hpm := List.mem_of_getElem? hp
    have hg := h.flok p hpm
    have hV0 := VS_ne hg
    have hV12 := VS_le p
    have bi : ∀ {B : Type} {k : Nat → Option B}, bnd ts.length (i : Int) k = k i := fun {B k} => bnd_nat (by omega)
    simp only [show ((i : Int) < (ts.length : Int)) from by omega, decide_true, cond_true, bi, hp, Option.bind_some, u_iTourOk hg, Bool.not_true, cond_false, u_iVertsOf hg]
    rw [hiLoop (VS p) (by omega) (fun y => decide (y ∈ acc)) false (fun self3 m y hy => ?_) (fun self3 => by simp)]
    · have hno : (VS p).any (fun y => decide (y ∈ acc)) = false := by
        rw [List.any_eq_false]
        intro y hy
        rw [decide_eq_true_eq]
        exact h.met_out k4 hp y ((VS_mem hg).1 hy)
      rw [hno]
      simp only [Bool.false_eq_true, if_false, Option.bind_some]
      rw [decide_eq_true (by omega), cond_true]
      have hcond : (bif decide ((0 : Int) < (i : Int)) then
          bnd ts.length (IntKind.wrap .i64 ((i : Int) - (1 : Int))) fun n12 =>
          Option.bind ts[n12]? fun y13 =>
          Option.bind (g_iVertsOf y13) fun r14 =>
          bnd r14.1.length (0 : Int) fun n15 =>
          Option.bind r14.1[n15]? fun y16 =>
          bnd (VS p).length (0 : Int) fun n17 =>
          Option.bind (VS p)[n17]? fun y18 =>
          some (decide (y18 ≤ y16))
         else some false) = some false := by
        by_cases h0 : 0 < i
        · have hw : IntKind.wrap .i64 ((i : Int) - 1) = ((i - 1 : Nat) : Int) := by rw [wr (by omega) (by omega)]; omega
          have hq := List.getElem?_eq_getElem (show i - 1 < ts.length by omega)
          generalize hqe : ts[i - 1] = q at hq
          have hgq := h.flok q (List.mem_of_getElem? hq)
          have hW0 := VS_ne hgq
          have hlt := List.pairwise_iff_getElem.1 h.flso (i - 1) i (by omega) hi (by omega)
          rw [hqe, hpe] at hlt
          rw [decide_eq_true (by omega), cond_true, hw, bnd_nat (by omega), hq, Option.bind_some, u_iVertsOf hgq, Option.bind_some, bnd_ok (by omega) (by simp only; omega)]
          simp only
          rw [show Int.toNat 0 = 0 from rfl, lsv_get hgq, Option.bind_some, bnd_ok (by omega) (by omega), show Int.toNat 0 = 0 from rfl, lsv_get hg, Option.bind_some, decide_eq_false (by omega)]
        · rw [decide_eq_false (by omega), cond_false]
      rw [hcond, Option.bind_some, cond_false, Option.bind_some]
      simp only
      rw [wr1 (by omega)]
      exact hs _ ⟨i + 1, rfl, hi, h.met_succ k4 hp⟩ (by simp; omega)
    · have hm' := (List.getElem?_eq_some_iff.1 hy).1
      have hyr := h.flrg p hpm y ((VS_mem hg).1 (List.mem_of_getElem? hy))
      simp only [show ((m : Int) < ((VS p).length : Int)) from by omega, decide_true, cond_true]
      rw [bnd_nat hm', hy, Option.bind_some, decide_eq_false (by omega), cond_false, h_ihasInt _ _ (by omega), Option.bind_some, Option.bind_some, wr1 (by omega)]
      by_cases hy' : y ∈ acc <;> simp [hy']
  · simp only [show ¬ ((i : Int) < (ts.length : Int)) from by omega, decide_false, cond_false]
    have hin : i = ts.length := by omega
    subst hin
    exact ⟨_, rfl, acc, rfl, h.met_all k4⟩
theorem v_iTreeOf (h1 : 1 ≤ n) (h12 : n ≤ 12) (x : Int) (h0 : 0 ≤ x) (hx : x < n) : ∃ (j : Nat) (p : List Int), ts[j]? = some p ∧ x ∈ p ∧ g_iTreeOf (((n : Int), ts), x) = some ((j : Int), ()) := by
  have hm : maxLen = 9223372036854775807 := by decide
  have hsz := h.fllen
  show ∃ (j : Nat) (p : List Int), _ ∧ _ ∧ f_iTreeOf BIG _ = _
  rw [e_iTreeOf, v_iForestOk h h1 h12, Option.bind_some]
  simp only [Bool.not_true, cond_false]
  refine loop_bind (x := (0 : Int)) (P := fun o => ∃ (j : Nat) (p : List Int), ts[j]? = some p ∧ x ∈ p ∧ o = some ((j : Int), ())) (fun (s : Int) => ∃ i : Nat, s = (i : Int) ∧ i ≤ ts.length ∧ ∀ j p, j < i → ts[j]? = some p → x ∉ p) (fun s => ts.length - s.toNat)
    (fun _ (b : Unit ⊕ Int) => ∃ (j : Nat) (p : List Int), ts[j]? = some p ∧ x ∈ p ∧ b = .inr (j : Int)) (by simp [BIG]; omega) ⟨0, rfl, by omega, fun j p hj => by omega⟩ (fun self s hx' hs => ?_) (fun b hb => ?_)
  · obtain ⟨i, rfl, k2, k3⟩ := hx'
    by_cases hi : i < ts.length
    · have hp := List.getElem?_eq_getElem hi
      generalize hpe : ts[i] = p at hp
      have hl := (h.flok p (List.mem_of_getElem? hp)).len
      simp only [show ((i : Int) < (ts.length : Int)) from by omega, decide_true, cond_true]
      rw [bnd_nat (by omega), hp, Option.bind_some, h_ihasInt _ _ (by omega), Option.bind_some, wr1 (by omega)]
      by_cases hin : x ∈ p
      · simp only [decide_eq_true hin, cond_true]
        exact ⟨_, rfl, i, p, hp, hin, rfl⟩
      · simp only [decide_eq_false hin, cond_false]
        refine hs _ ⟨i + 1, rfl, hi, fun j q hj hq => ?_⟩ (by simp; omega)
        by_cases hji : j = i
        · subst hji
          rw [hp] at hq
          cases hq
          exact hin
        · exact k3 j q (by omega) hq
    · exfalso
      obtain ⟨p, p1, p2⟩ := h.flcv x h0 hx
      obtain ⟨j, hj, hjp⟩ := List.mem_iff_getElem.1 p1
      exact k3 j p (by omega) (by rw [List.getElem?_eq_getElem hj, hjp]) p2
  · obtain ⟨j, p, h1, h2, rfl⟩ := hb
    exact ⟨j, p, h1, h2, rfl⟩
theorem FoL.fl_at {i a : Nat} {x p : List Int} (hi : ts[i]? = some x) (ha : ts[a]? = some p) : i = a ↔ x = p := by
  constructor
  · rintro rfl
    rw [hi] at ha
    exact Option.some.inj ha
  · rintro rfl
    have := h.flok x (List.mem_of_getElem? hi)
    exact h.flidx hi ha (lsv_mem this) (lsv_mem this)
theorem u_iwithout (h12 : n ≤ 12) {a b : Nat} {p q : List Int} (ha : ts[a]? = some p) (hb : ts[b]? = some q) : g_iwithout (((n : Int), ts), (a : Int), (b : Int)) = some (((n : Int), wo ts p q), ()) := by
  have hm : maxLen = 9223372036854775807 := by decide
  have hsz := h.fllen
  show f_iwithout BIG _ = _
  rw [e_iwithout]
  refine loop_bind (x := (((n : Int), ([] : List (List Int))), (0 : Int))) (P := fun o => o = some (((n : Int), wo ts p q), ())) (fun (s : (Int × List (List Int)) × Int) => ∃ i : Nat, s.2 = (i : Int) ∧ i ≤ ts.length ∧ s.1 = ((n : Int), wo (ts.take i) p q)) (fun s => ts.length - s.2.toNat)
    (fun _ (b : Int × List (List Int)) => b = ((n : Int), wo ts p q)) (by simp [BIG]; omega) ⟨0, rfl, by omega, rfl⟩ (fun self s hx hs => ?_) (fun b hb => by subst hb; rfl)
  obtain ⟨f, jj⟩ := s
  obtain ⟨i, k1, k2, k3⟩ := hx
  simp only at k1 k2 k3 hs ⊢
  subst k1 k3
  by_cases hi : i < ts.length
  · have hp := List.getElem?_eq_getElem hi
    generalize hpe : ts[i] = x at hp
    have hxl := (h.flok x (List.mem_of_getElem? hp)).len
    have hs' := wo_take hp p q
    have hlen : (wo (ts.take i) p q).length ≤ 12 := by
      have := List.length_filter_le (fun t => decide (t ≠ p) && decide (t ≠ q)) (ts.take i)
      rw [List.length_take] at this
      show (List.filter _ _).length ≤ 12
      omega
    have i1 : ((i : Int) = (a : Int)) ↔ x = p := by rw [← h.fl_at hp ha]; omega
    have i2 : ((i : Int) = (b : Int)) ↔ x = q := by rw [← h.fl_at hp hb]; omega
    simp only [show ((i : Int) < (ts.length : Int)) from by omega, decide_true, cond_true]
    rw [bnd_nat hi, hp, Option.bind_some, decide_eq_decide.2 i1, decide_eq_decide.2 i2]
    have hc : (bif !decide (x = p) then some (!decide (x = q)) else some false : Option Bool) = some (decide (x ≠ p ∧ x ≠ q)) := by
      by_cases c1 : x = p <;> by_cases c2 : x = q <;> simp [c1, c2]
    rw [hc, Option.bind_some]
    by_cases hk : x ≠ p ∧ x ≠ q
    · rw [decide_eq_true hk, cond_true, w_icopyInts _ (by omega), Option.bind_some, decide_eq_true (by simp only [List.length_cons, List.length_nil]; omega), cond_true, Option.bind_some, wr1 (by omega)]
      refine hs _ ⟨i + 1, rfl, hi, ?_⟩ (by simp; omega)
      rw [hs', if_pos hk]
    · rw [decide_eq_false hk, cond_false, Option.bind_some, wr1 (by omega)]
      refine hs _ ⟨i + 1, rfl, hi, ?_⟩ (by simp; omega)
      rw [hs', if_neg hk, List.append_nil]
  · simp only [show ¬ ((i : Int) < (ts.length : Int)) from by omega, decide_false, cond_false]
    exact ⟨_, rfl, by rw [List.take_of_length_le (by omega)]⟩
theorem v_iSizeOf (h1 : 1 ≤ n) (h12 : n ≤ 12) (x : Int) (h0 : 0 ≤ x) (hx : x < n) {j : Nat} {p : List Int} (hj : ts[j]? = some p) (hp : x ∈ p) : g_iSizeOf (((n : Int), ts), x) = some (((VS p).length : Int), ()) := by
  obtain ⟨k, q, k1, k2, k3⟩ := v_iTreeOf h h1 h12 x h0 hx
  have := h.flidx hj k1 hp k2
  subst this
  rw [hj] at k1
  cases k1
  show f_iSizeOf BIG _ = _
  rw [e_iSizeOf, k3, Option.bind_some, decide_eq_false (by omega), cond_false, bnd_nat (List.getElem?_eq_some_iff.1 hj).1, hj, Option.bind_some, u_iVertsOf (h.flok p (List.mem_of_getElem? hj)), Option.bind_some]
end
theorem put_mem (l : List Ed) (k : Nat) (e x : Ed) : x ∈ l.take k ++ [e] ++ l.drop k ↔ x = e ∨ x ∈ l := by
  rw [List.mem_append, List.mem_append, List.mem_singleton]
  have : x ∈ l ↔ x ∈ l.take k ∨ x ∈ l.drop k := by rw [← List.mem_append, List.take_append_drop]
  rw [this]
  constructor
  · rintro ((h | h) | h)
    · exact .inr (.inl h)
    · exact .inl h
    · exact .inr (.inr h)
  · rintro (h | h | h)
    · exact .inl (.inr h)
    · exact .inl (.inl h)
    · exact .inr h
theorem put_ndp {l : List Ed} (hn : l.Nodup) {e : Ed} (he : e ∉ l) (k : Nat) : (l.take k ++ [e] ++ l.drop k).Nodup := by
  have hp : (l.take k ++ [e] ++ l.drop k).Perm (e :: l) := by
    have := List.perm_middle (a := e) (l₁ := l.take k) (l₂ := l.drop k)
    rw [List.take_append_drop] at this
    simpa using this
  exact hp.nodup_iff.2 (List.nodup_cons.2 ⟨he, hn⟩)
def AdjAt (t : List Int) (m : Nat) (x : Ed) : Prop := ∃ a b : Int, t[m]? = some a ∧ t[m + 1]? = some b ∧ x = ed a b
theorem adj_upto {t : List Int} {k : Nat} (hk : k + 1 = t.length) (x : Ed) : Adj t x ↔ ∃ m : Nat, m < k ∧ AdjAt t m x := by
  constructor
  · rintro ⟨m, a, b, h1, h2, h3⟩
    exact ⟨m, by have := (List.getElem?_eq_some_iff.1 h2).1; omega, a, b, h1, h2, h3⟩
  · rintro ⟨m, _, a, b, h1, h2, h3⟩
    exact ⟨m, a, b, h1, h2, h3⟩
theorem ed_mm (a b : Int) : ((if b < a then b else a, if b > a then b else a) : Ed) = ed a b := by
  unfold ed
  by_cases h : a < b
  · rw [if_pos h, if_neg (by omega), if_pos h]
  · rw [if_neg h]
    by_cases h' : b < a
    · rw [if_pos h', if_neg (by omega)]
    · have : a = b := by omega
      subst this
      simp
theorem v_ihasEdge (l : List Ed) (e : Ed) (hl : l.length ≤ maxLen) : g_ihasEdge (l, e) = some (decide (e ∈ l), ()) := by
  show f_ihasEdge BIG _ = _
  rw [e_ihasEdge, allLoop l (Nat.lt_of_le_of_lt hl maxLen_lt) (fun i => decide (l[i]? ≠ some e)) true (fun self i y hy => by
      have hi := (List.getElem?_eq_some_iff.1 hy).1
      simp only [show ((i : Int) < (l.length : Int)) from by omega, decide_true, cond_true]
      rw [bnd_nat hi, hy, Option.bind_some, wr1 (by omega)]
      obtain ⟨y1, y2⟩ := y
      obtain ⟨e1, e2⟩ := e
      by_cases h1 : y1 = e1 <;> by_cases h2 : y2 = e2 <;> simp [h1, h2]) (fun self => by simp)]
  by_cases h : e ∈ l
  · rw [if_neg, decide_eq_true h]
    · rfl
    · intro hh
      obtain ⟨i, hi⟩ := List.getElem?_of_mem h
      have := hh i (List.getElem?_eq_some_iff.1 hi).1
      rw [decide_eq_true_eq] at this
      exact this hi
  · rw [if_pos, decide_eq_false h]
    · rfl
    · intro i hi
      rw [decide_eq_true_eq]
      exact fun hh => h (List.mem_of_getElem? hh)
theorem ed_lt {e : Ed} (h : e.1 < e.2) : ed e.1 e.2 = e := by unfold ed; rw [if_pos h]
section
variable {n : Nat} {ts : List (List Int)} (h : FoL n ts)
include h
theorem FoL.wo_few (p q : List Int) : (wo ts p q).length ≤ n := by
  have h1 := List.length_filter_le (fun t => decide (t ≠ p) && decide (t ≠ q)) ts
  have h2 := h.fllen
  show (List.filter _ _).length ≤ n
  omega
theorem v_iLink (h1 : 1 ≤ n) (h12 : n ≤ 12) {e : Ed} (he : edB n e = true) : ∃ (i j : Nat) (p q : List Int), ts[i]? = some p ∧ e.1 ∈ p ∧ ts[j]? = some q ∧ e.2 ∈ q ∧ g_iTreeOf (((n : Int), ts), e.1) = some ((i : Int), ()) ∧ g_iTreeOf (((n : Int), ts), e.2) = some ((j : Int), ()) ∧
    ((i = j ∧ g_iLink (((n : Int), ts), e) = some (((0 : Int), [], false), ())) ∨ (i ≠ j ∧ ∃ J, JoinP p q e.1 e.2 J ∧ g_iLink (((n : Int), ts), e) = some (((n : Int), insT J (wo ts p q), true), ()))) := by
  obtain ⟨e0, e1, e2⟩ := edB_f he
  obtain ⟨i, p, i1, i2, i3⟩ := v_iTreeOf h h1 h12 e.1 e0 (by omega)
  obtain ⟨j, q, j1, j2, j3⟩ := v_iTreeOf h h1 h12 e.2 (by omega) e2
  refine ⟨i, j, p, q, i1, i2, j1, j2, i3, j3, ?_⟩
  have hl : g_iLink (((n : Int), ts), e) = f_iLink BIG (((n : Int), ts), e) := rfl
  have hpre : (Option.bind (g_iForestOk ((n : Int), ts)) fun r0 => bif !r0.1 then some true else Option.bind (g_iEdgeOk (((n : Int), ts).1, e)) fun r1 => some !r1.1 : Option Bool) = some false := by
    rw [v_iForestOk h h1 h12, Option.bind_some]
    simp only [Bool.not_true, cond_false]
    rw [h_iEdgeOk, he]; rfl
  rw [hl, e_iLink, hpre, Option.bind_some, cond_false, i3, Option.bind_some, j3, Option.bind_some]
  simp only
  by_cases hij : i = j
  · left
    rw [decide_eq_true (by omega), cond_true]
    exact ⟨hij, rfl⟩
  · right
    refine ⟨hij, ?_⟩
    have hp := List.mem_of_getElem? i1
    have hq := List.mem_of_getElem? j1
    have hpq : q ≠ p := fun g => hij ((h.fl_at j1 i1).2 g).symm
    obtain ⟨J, hJ, eJ⟩ := u_iJoinTours (h.flok p hp) (h.flok q hq) (h.fldj q hq p hp hpq) i2 j2
    refine ⟨J, hJ, ?_⟩
    rw [decide_eq_false (by omega), cond_false, bnd_nat (List.getElem?_eq_some_iff.1 i1).1, i1, Option.bind_some, bnd_nat (List.getElem?_eq_some_iff.1 j1).1, j1, Option.bind_some, eJ, Option.bind_some, u_iwithout h h12 i1 j1, Option.bind_some,
      u_iputTour (joinP_ok hJ) (fun x hx => h.flok x (mem_wo.1 hx).1) (by have := h.wo_few p q; omega), Option.bind_some]
theorem v_iCut (h1 : 1 ≤ n) (h12 : n ≤ 12) {e : Ed} (he : edB n e = true) {k : Nat} {a b J : List Int} (hk : ts[k]? = some J) (hJ : JoinP a b e.1 e.2 J) :
    ∃ y, SplP J a y ∧ (∀ x, x ∈ y ↔ x ∈ b) ∧ g_iCut (((n : Int), ts), e) = some (((n : Int), insT y (insT a (wo ts J J)), true), ()) := by
  obtain ⟨e0, e1, e2⟩ := edB_f he
  have hJm := List.mem_of_getElem? hk
  have hin := (adj_mem (joinP_adj hJ)).1
  rw [ed_lt e1] at hin
  obtain ⟨i, p, i1, i2, i3⟩ := v_iTreeOf h h1 h12 e.1 e0 (by omega)
  have hik := h.flidx i1 hk i2 hin
  subst hik
  obtain ⟨y, hS, hy, ey⟩ := u_iSplitTour hJ
  refine ⟨y, hS, hy, ?_⟩
  have hl : g_iCut (((n : Int), ts), e) = f_iCut BIG (((n : Int), ts), e) := rfl
  have hpre : (Option.bind (g_iForestOk ((n : Int), ts)) fun r0 => bif !r0.1 then some true else Option.bind (g_iEdgeOk (((n : Int), ts).1, e)) fun r1 => some !r1.1 : Option Bool) = some false := by
    rw [v_iForestOk h h1 h12, Option.bind_some]
    simp only [Bool.not_true, cond_false]
    rw [h_iEdgeOk, he]; rfl
  have hw := h.wo_few J J
  rw [hl, e_iCut, hpre, Option.bind_some, cond_false, i3, Option.bind_some]
  simp only
  rw [bnd_nat (List.getElem?_eq_some_iff.1 hk).1, hk, Option.bind_some, ey, Option.bind_some]
  simp only [Bool.not_true, cond_false]
  rw [u_iwithout h h12 hk hk, Option.bind_some, u_iputTour hS.spa (fun x hx => h.flok x (mem_wo.1 hx).1) (by omega), Option.bind_some,
    u_iputTour hS.spb (fun x hx => (mem_insT.1 hx).elim (fun g => by rw [g]; exact hS.spa) (fun hx => h.flok x (mem_wo.1 hx).1)) (by simp only [insT_len]; omega), Option.bind_some]
theorem v_iEdgesOf (h1 : 1 ≤ n) (h12 : n ≤ 12) : ∃ E, g_iEdgesOf ((n : Int), ts) = some (E, ()) ∧ EdI ts ts.length E := by
  have hm : maxLen = 9223372036854775807 := by decide
  have hsz := h.fllen
  show ∃ E, f_iEdgesOf BIG _ = _ ∧ _
  rw [e_iEdgesOf, v_iForestOk h h1 h12, Option.bind_some]
  simp only [Bool.not_true, cond_false]
  refine loop_bind (x := (([] : List Ed), (0 : Int))) (P := fun o => ∃ E, o = some (E, ()) ∧ EdI ts ts.length E) (fun (s : List Ed × Int) => ∃ i : Nat, s.2 = (i : Int) ∧ i ≤ ts.length ∧ EdI ts i s.1) (fun s => ts.length - s.2.toNat)
    (fun _ (b : List Ed) => EdI ts ts.length b) (by simp [BIG]; omega) ⟨0, rfl, by omega, EdI.zero ts⟩ (fun self s hx hs => ?_) (fun b hb => ⟨b, rfl, hb⟩)
  obtain ⟨E, jj⟩ := s
  obtain ⟨i, k1, k2, k3⟩ := hx
  simp only at k1 k2 k3 hs ⊢
  subst k1
  by_cases hi : i < ts.length
  · have hp := List.getElem?_eq_getElem hi
    generalize hpe : ts[i] = t at hp
    have hg := h.flok t (List.mem_of_getElem? hp)
    have hl := hg.len
    have hfew := EdI.few h k3
    simp only [show ((i : Int) < (ts.length : Int)) from by omega, decide_true, cond_true]
    rw [bnd_nat hi, hp, Option.bind_some]
    refine loop_bind (x := (E, (0 : Int))) (P := fun o => ∃ b : List Ed, o = some b ∧ EdI ts ts.length b) (fun (s : List Ed × Int) => ∃ k : Nat, s.2 = (k : Int) ∧ k + 1 ≤ t.length ∧ s.1.Nodup ∧ (∀ x, x ∈ s.1 ↔ x ∈ E ∨ ∃ m : Nat, m < k ∧ AdjAt t m x) ∧ s.1.length ≤ E.length + k) (fun s => t.length - s.2.toNat)
      (fun _ (b : List Ed) => b.Nodup ∧ ∀ x, x ∈ b ↔ x ∈ E ∨ Adj t x) (by simp [BIG]; omega) ⟨0, rfl, by omega, k3.edn, fun x => ⟨.inl, fun g => g.elim id fun ⟨m, g, _⟩ => absurd g (by omega)⟩, by simp⟩ (fun self2 s2 hx2 hs2 => ?_) (fun b hb => ?_)
    · obtain ⟨E', jk⟩ := s2
      obtain ⟨k, m1, m2, m3, m4, m5⟩ := hx2
      simp only at m1 m2 m3 m4 m5 hs2 ⊢
      subst m1
      rw [wr1 (by omega)]
      by_cases hk : k + 1 < t.length
      · have ta := List.getElem?_eq_getElem (show k < t.length by omega)
        generalize hae : t[k] = a at ta
        have tb := List.getElem?_eq_getElem hk
        generalize hbe : t[k + 1] = b at tb
        have b0 : ∀ {B : Type} {f : Nat → Option B}, bnd t.length (k : Int) f = f k := fun {B f} => bnd_nat (by omega)
        have b1 : ∀ {B : Type} {f : Nat → Option B}, bnd t.length ((k + 1 : Nat) : Int) f = f (k + 1) := fun {B f} => bnd_nat hk
        rw [decide_eq_true (show (((k + 1 : Nat) : Int) < (t.length : Int)) from by omega), cond_true]
        simp only [b0, b1, ta, tb, Option.bind_some, ed_mm]
        rw [v_ihasEdge _ _ (by omega), Option.bind_some]
        have hmem : ∀ x, (x = ed a b ∨ x ∈ E') ↔ (x ∈ E ∨ ∃ m : Nat, m < k + 1 ∧ AdjAt t m x) := by
          intro x
          rw [m4]
          constructor
          · rintro (rfl | g | ⟨m, g1, g2⟩)
            · exact .inr ⟨k, by omega, a, b, ta, tb, rfl⟩
            · exact .inl g
            · exact .inr ⟨m, by omega, g2⟩
          · rintro (g | ⟨m, g1, g2⟩)
            · exact .inr (.inl g)
            · by_cases hmk : m = k
              · subst hmk
                obtain ⟨a', b', g3, g4, g5⟩ := g2
                rw [ta] at g3
                rw [tb] at g4
                cases g3; cases g4
                exact .inl g5
              · exact .inr (.inr ⟨m, by omega, g2⟩)
        by_cases hin : ed a b ∈ E'
        · simp only [decide_eq_true hin, Bool.not_true, cond_false, Option.bind_some]
          refine hs2 _ ⟨k + 1, rfl, hk, m3, fun x => ?_, by simp only; omega⟩ (by simp; omega)
          rw [← hmem]
          simp only
          constructor
          · exact .inr
          · rintro (rfl | g)
            · exact hin
            · exact g
        · simp only [decide_eq_false hin, Bool.not_false, cond_true]
          rw [h_iwithEdge _ _ (by omega), Option.bind_some, Option.bind_some]
          refine hs2 _ ⟨k + 1, rfl, hk, put_ndp m3 hin _, fun x => ?_, ?_⟩ (by simp; omega)
          · rw [← hmem]
            exact put_mem _ _ _ _
          · simp only [List.length_append, List.length_take, List.length_cons, List.length_nil, List.length_drop]
            omega
      · rw [decide_eq_false (by omega), cond_false]
        refine ⟨_, rfl, m3, fun x => ?_⟩
        rw [m4, adj_upto (show k + 1 = t.length by omega)]
    · rw [wr1 (by omega)]
      exact hs _ ⟨i + 1, rfl, hi, EdI.succ h k3 hp hb.1 hb.2⟩ (by simp; omega)
  · simp only [show ¬ ((i : Int) < (ts.length : Int)) from by omega, decide_false, cond_false]
    have hin : i = ts.length := by omega
    subst hin
    exact ⟨_, rfl, k3⟩
end
theorem v_sForestNew {n : Nat} (h1 : 1 ≤ n) (h12 : n ≤ 12) : g_sForestNew (n : Int) = some (((n : Int), ones n, true), ()) := by
  have hm : maxLen = 9223372036854775807 := by decide
  show f_sForestNew BIG _ = _
  rw [e_sForestNew, h_sl01In', show inB (n : Int) 1 12 = true from inB_t.2 (by omega), Option.bind_some]
  simp only [Bool.not_true, cond_false]
  refine loop_bind (x := (((n : Int), ([] : List (List Int))), (0 : Int))) (P := fun o => o = some (((n : Int), ones n, true), ())) (fun (s : (Int × List (List Int)) × Int) => ∃ i : Nat, s.2 = (i : Int) ∧ i ≤ n ∧ s.1 = ((n : Int), ones i)) (fun s => n - s.2.toNat)
    (fun _ (b : Int × List (List Int)) => b = ((n : Int), ones n)) (by simp [BIG]; omega) ⟨0, rfl, by omega, rfl⟩ (fun self s hx hs => ?_) (fun b hb => by subst hb; rfl)
  obtain ⟨f, jj⟩ := s
  obtain ⟨i, k1, k2, k3⟩ := hx
  simp only at k1 k2 k3 hs ⊢
  subst k1 k3
  by_cases hi : i < n
  · have hl : (ones i).length = i := by unfold ones; rw [List.length_map, List.length_range]
    rw [decide_eq_true (by omega), cond_true, decide_eq_true (by simp only [List.length_cons, List.length_nil, hl]; omega), cond_true, wr1 (by omega)]
    exact hs _ ⟨i + 1, rfl, hi, by rw [ones_succ]⟩ (by simp; omega)
  · rw [decide_eq_false (by omega), cond_false]
    have : i = n := by omega
    subst this
    exact ⟨_, rfl, rfl⟩
theorem v_sl06First (l : List Int) (x : Int) (hl : l.length ≤ 1048576) : g_sl06First (l, x) = some (if l.findIdx (fun y => decide (y = x)) < l.length then (l.findIdx (fun y => decide (y = x)) : Int) else -1, ()) := by
  have hm : maxLen = 9223372036854775807 := by decide
  show f_sl06First BIG _ = _
  rw [e_sl06First, fiLoop l (by omega) (fun y => decide (y = x)) (fun self i y hy => ?_) (fun self => by simp), Option.bind_some]
  · by_cases h : l.findIdx (fun y => decide (y = x)) < l.length
    · rw [if_pos h, if_pos h]
    · rw [if_neg h, if_neg h]
  · have hi := (List.getElem?_eq_some_iff.1 hy).1
    simp only [show ((i : Int) < (l.length : Int)) from by omega, decide_true, cond_true]
    rw [bnd_nat hi, hy, Option.bind_some, wr1 (by omega)]
    by_cases h : y = x <;> simp [h]
theorem v_sl06Last (l : List Int) (x : Int) (hl : l.length ≤ 1000) (hx : x ∈ l) : ∃ m : Nat, l[m]? = some x ∧ g_sl06Last (l, x) = some ((m : Int), ()) := by
  have hm : maxLen = 9223372036854775807 := by decide
  obtain ⟨ks, hks, hpk⟩ := List.getElem_of_mem hx
  have hw0 : IntKind.wrap .i64 ((l.length : Int) - 1) = ((l.length - 1 : Nat) : Int) := by rw [wr (by omega) (by omega)]; omega
  show ∃ m : Nat, _ ∧ f_sl06Last BIG _ = _
  rw [e_sl06Last, hw0]
  refine loop_bind (x := ((l.length - 1 : Nat) : Int)) (P := fun o => ∃ m : Nat, l[m]? = some x ∧ o = some ((m : Int), ())) (fun (s : Int) => ∃ m : Nat, s = (m : Int) ∧ m < l.length ∧ ks ≤ m) (fun s => s.toNat) (fun _ (b : Unit ⊕ Int) => ∃ m : Nat, b = .inr (m : Int) ∧ l[m]? = some x) (by simp [BIG]; omega) ⟨_, rfl, by omega, by omega⟩ (fun self s hs hself => ?_) (fun b hb => ?_)
  · obtain ⟨m, rfl, m1, m2⟩ := hs
    rw [decide_eq_true (show (0 : Int) ≤ (m : Int) from by omega), cond_true, bnd_nat m1, List.getElem?_eq_getElem m1, Option.bind_some]
    by_cases hmp : l[m] = x
    · rw [decide_eq_true hmp, cond_true]
      exact ⟨_, rfl, m, rfl, by rw [List.getElem?_eq_getElem m1, hmp]⟩
    · rw [decide_eq_false hmp, cond_false]
      have : m ≠ ks := fun h => hmp (by subst h; exact hpk)
      have hw1 : IntKind.wrap .i64 ((m : Int) - 1) = ((m - 1 : Nat) : Int) := by rw [wr (by omega) (by omega)]; omega
      rw [hw1]
      exact hself _ ⟨m - 1, rfl, by omega, by omega⟩ (by simp; omega)
  · obtain ⟨m, rfl, m1⟩ := hb
    exact ⟨m, m1, rfl⟩
theorem rotR_zero (v : Int) (c : FT) : rotR (tr v c) 0 v = tr v c := by
  obtain ⟨L, hL⟩ := tr_last v c
  unfold rotR
  rw [hL]
  simp
theorem v_sReroot {v : Int} {c : FT} (h : TrOk v c) {x : Int} (hx : x ∈ tr v c) : ∃ k, k < (tr v c).length ∧ (tr v c).getD k 0 = x ∧ g_sReroot (tr v c, x) = some ((rotR (tr v c) k x, true), ()) := by
  have hm : maxLen = 9223372036854775807 := by decide
  have hl := h.len
  have hlen := tr_len v c
  have hk : (tr v c).findIdx (fun y => decide (y = x)) < (tr v c).length := List.findIdx_lt_length.2 ⟨x, hx, by simp⟩
  have hp := List.findIdx_getElem (w := hk)
  rw [decide_eq_true_eq] at hp
  refine ⟨_, hk, by rw [gD (List.getElem?_eq_getElem hk)]; exact hp, ?_⟩
  show f_sReroot BIG _ = _
  rw [e_sReroot, w_sTourOk h, v_sl06First _ _ (by omega), if_pos hk]
  generalize (tr v c).findIdx (fun y => decide (y = x)) = k at hk hp ⊢
  have hw : IntKind.wrap .i64 (((tr v c).length : Int) - 1) = (((tr v c).length - 1 : Nat) : Int) := by rw [wr (by omega) (by omega)]; omega
  simp only [Option.bind_some, Bool.not_true, cond_false, decide_eq_false (show ¬ ((k : Int) < 0) from by omega)]
  by_cases h0 : k = 0
  · subst h0
    have hv : x = v := hp.symm
    subst hv
    rw [decide_eq_true (by omega), cond_true, decide_eq_true (by first | omega | (simp only [List.length_nil]; omega)), cond_true, rotR_zero]
    rfl
  · rw [decide_eq_false (by omega), cond_false]
    simp only [hw, Int.toNat_natCast, decide_eq_true (show (0 : Int) ≤ (k : Int) from by omega), decide_eq_true (show (0 : Int) ≤ (((tr v c).length - 1 : Nat) : Int) from by omega), cond_true, Nat.sub_zero, List.drop_zero, List.nil_append, List.length_nil]
    rw [decide_eq_true (by omega), cond_true, decide_eq_true (by simp only [List.length_take, List.length_drop]; omega), cond_true, decide_eq_true (by omega), cond_true, decide_eq_true (by simp only [List.length_take, List.length_drop]; omega), cond_true,
      decide_eq_true (by simp only [List.length_append, List.length_take, List.length_drop, List.length_cons, List.length_nil]; omega), cond_true]
    rfl
theorem u_sJoinTours {a b : List Int} {p q : Int} (ha : TrT a) (hb : TrT b) (hd : ∀ x, x ∈ b → x ∉ a) (hp : p ∈ a) (hq : q ∈ b) : ∃ J, JoinP a b p q J ∧ g_sJoinTours (a, p, b, q) = some ((J, true), ()) := by
  have hm : maxLen = 9223372036854775807 := by decide
  obtain ⟨r, A, rfl, hA⟩ := ha
  obtain ⟨w, C, rfl, hC⟩ := hb
  have hAl := hA.len
  have hCl := hC.len
  have hsz : (tr r A).length + (tr w C).length ≤ 100 := by rw [tr_len, tr_len]; omega
  obtain ⟨k2, hk2, hx2, e2⟩ := v_sReroot hC (x := q) hq
  obtain ⟨D, eD, hD, mD⟩ := rot_tr hC hk2 hx2
  have lD := (rot_head hk2 hx2).2
  rw [eD] at e2 lD
  have f1 : (tr r A).findIdx (fun y => decide (y = p)) < (tr r A).length := List.findIdx_lt_length.2 ⟨p, hp, by simp⟩
  have f2 : (tr w C).findIdx (fun y => decide (y = q)) < (tr w C).length := List.findIdx_lt_length.2 ⟨q, hq, by simp⟩
  obtain ⟨m, m1, m2⟩ := v_sl06Last (tr r A) p (by omega) hp
  have mlt := (List.getElem?_eq_some_iff.1 m1).1
  have hJ := joinP_mk hA hd m1 hD mD
  refine ⟨_, hJ, ?_⟩
  show f_sJoinTours BIG _ = _
  rw [e_sJoinTours, w_sTourOk hA, w_sTourOk hC, v_sl06First _ _ (by omega), v_sl06First _ _ (by omega), if_pos f1, if_pos f2]
  simp only [Option.bind_some, Bool.not_true, cond_false]
  rw [decide_eq_false (by omega), cond_false, decide_eq_false (by omega), Option.bind_some, cond_false]
  rw [hiLoop (tr w C) (by omega) (fun y => decide (y ∈ tr r A)) ([], false) (fun self i y hy => ?_) (fun self => by simp)]
  · have : (tr w C).any (fun y => decide (y ∈ tr r A)) = false := by
      rw [List.any_eq_false]
      intro y hy
      rw [decide_eq_true_eq]
      exact hd y hy
    rw [this]
    simp only [Bool.false_eq_true, if_false, Option.bind_some]
    rw [e2, Option.bind_some, m2, Option.bind_some]
    have e3 : List.take ((tr r A).length - m) (List.drop m (tr r A)) = (tr r A).drop m := List.take_of_length_le (by simp)
    simp only
    rw [wr1 (by omega)]
    simp only [Int.toNat_natCast, Nat.sub_zero, List.drop_zero, e3, List.nil_append, List.length_nil]
    rw [decide_eq_true (by omega), cond_true, decide_eq_true (by omega), cond_true, decide_eq_true (by rw [List.length_take]; omega), cond_true, decide_eq_true (by rw [List.length_take]; omega), cond_true, decide_eq_true (by omega), cond_true, decide_eq_true (by omega), cond_true,
      decide_eq_true (by simp only [List.length_append, List.length_take, List.length_drop]; omega), cond_true]
  · have hi := (List.getElem?_eq_some_iff.1 hy).1
    simp only [show ((i : Int) < ((tr w C).length : Int)) from by omega, decide_true, cond_true]
    rw [bnd_nat hi, hy, Option.bind_some, h_sl05In _ _ (by omega), Option.bind_some, wr1 (by omega)]
    by_cases h : y ∈ tr r A <;> simp [h]
theorem v_sl06Going (t : List Int) (u v : Int) {i : Nat} (hl : t.length ≤ 1000) (h1 : t[i]? = some u) (h2 : t[i + 1]? = some v) (hmin : ∀ (j : Nat), j < i → ¬ (t[j]? = some u ∧ t[j + 1]? = some v)) : g_sl06Going (t, u, v) = some ((i : Int), ()) := by
  have hm : maxLen = 9223372036854775807 := by decide
  have hi2 := (List.getElem?_eq_some_iff.1 h2).1
  show f_sl06Going BIG _ = _
  rw [e_sl06Going]
  refine loop_bind (x := (0 : Int)) (P := fun o => o = some ((i : Int), ())) (fun (s : Int) => ∃ j : Nat, s = (j : Int) ∧ j ≤ i) (fun s => t.length - s.toNat) (fun _ (b : Unit ⊕ Int) => b = .inr (i : Int)) (by simp [BIG]; omega) ⟨0, rfl, by omega⟩ (fun self s hx hs => ?_) (fun b hb => by subst hb; rfl)
  obtain ⟨j, rfl, hj⟩ := hx
  have b0 : ∀ {B : Type} {f : Nat → Option B}, bnd t.length (j : Int) f = f j := fun {B f} => bnd_nat (by omega)
  have b1 : ∀ {B : Type} {f : Nat → Option B}, bnd t.length ((j + 1 : Nat) : Int) f = f (j + 1) := fun {B f} => bnd_nat (by omega)
  have ta := List.getElem?_eq_getElem (show j < t.length by omega)
  have tb := List.getElem?_eq_getElem (show j + 1 < t.length by omega)
  rw [wr1 (by omega), decide_eq_true (show (((j + 1 : Nat) : Int) < (t.length : Int)) from by omega), cond_true]
  simp only [b0, b1, ta, tb, Option.bind_some]
  by_cases hji : j = i
  · subst hji
    rw [ta, Option.some.injEq] at h1
    rw [tb, Option.some.injEq] at h2
    simp only [h1, h2, decide_true, cond_true, Option.bind_some]
    exact ⟨_, rfl, rfl⟩
  · have hno := hmin j (by omega)
    rw [ta, tb, Option.some.injEq, Option.some.injEq] at hno
    have hc : (bif decide (t[j] = u) then some (decide (t[j + 1] = v)) else some false : Option Bool) = some false := by
      by_cases c1 : t[j] = u
      · rw [decide_eq_true c1, cond_true, decide_eq_false fun c2 => hno ⟨c1, c2⟩]
      · rw [decide_eq_false c1, cond_false]
    rw [hc, Option.bind_some, cond_false, Option.bind_some]
    exact hs _ ⟨j + 1, rfl, by omega⟩ (by simp; omega)
section
variable {r : Int} {F : FT} {k : Nat} {X : List Int} {p w : Int} {C : FT} {Y : List Int} {F' : FT}
theorem SpF.goes (h : SpF r F k X p w C Y F') (ht : TrOk r F) : g_sl06Going (tr r F, p, w) = some ((X.length : Int), ()) ∧ g_sl06Going (tr r F, w, p) = some (((X.length + (tr w C).length : Nat) : Int), ()) := by
  have hl := h.len.1
  have hlen := tr_len r F
  have hlt := ht.len
  obtain ⟨hC, hF, hd⟩ := h.nd ht
  have hw : w ∈ tr w C := List.mem_cons_self ..
  have hp : p ∈ tr r F' := by rw [h.e2]; simp
  have hpw : p ≠ w := fun g => hd w hw (by rw [← g]; exact hp)
  have hwl : 1 ≤ (tr w C).length := by simp [tr]
  have c0 : (tr r F)[X.length + 1]? = some w := by
    have := h.inn (m := 0) (by omega)
    rw [Nat.add_zero] at this
    rw [this]; rfl
  have cl : (tr r F)[X.length + (tr w C).length]? = some w := by
    have := h.inn (m := (tr w C).length - 1) (by omega)
    rw [show X.length + 1 + ((tr w C).length - 1) = X.length + (tr w C).length from by omega] at this
    rw [this, tr_closed]; rfl
  refine ⟨v_sl06Going _ _ _ (by omega) h.atD c0 fun j hj hh => ?_, v_sl06Going _ _ _ (by omega) cl h.atU fun j hj hh => ?_⟩
  · have hj1 := (List.getElem?_eq_some_iff.1 hh.2).1
    have := (h.pair ht hj1 hh.1 hh.2).1 (.inl ⟨rfl, rfl⟩)
    omega
  · have hj1 := (List.getElem?_eq_some_iff.1 hh.2).1
    have := (h.pair ht hj1 hh.1 hh.2).1 (.inr ⟨rfl, rfl⟩)
    have hjX : j = X.length := by omega
    subst hjX
    have := h.atD.symm.trans hh.1
    exact hpw (Option.some.inj this)
theorem v_sSplitTour (h : SpF r F k X p w C Y F') (ht : TrOk r F) {u v : Int} (huv : (u = p ∧ v = w) ∨ (u = w ∧ v = p)) : g_sSplitTour (tr r F, u, v) = some ((tr r F', tr w C, true), ()) := by
  have hm : maxLen = 9223372036854775807 := by decide
  have hl := h.len.1
  have hlen := tr_len r F
  have hlt := ht.len
  have hwl : 1 ≤ (tr w C).length := by simp [tr]
  obtain ⟨g1, g2⟩ := h.goes ht
  have hx : ∃ r1 r2 : Int, g_sl06Going (tr r F, u, v) = some (r1, ()) ∧ g_sl06Going (tr r F, v, u) = some (r2, ()) ∧ ¬ r1 < 0 ∧ ¬ r2 < 0 ∧ (bif decide (r2 < r1) then some (r2, r1) else some (r1, r2) : Option (Int × Int)) = some ((X.length : Int), ((X.length + (tr w C).length : Nat) : Int)) := by
    rcases huv with ⟨rfl, rfl⟩ | ⟨rfl, rfl⟩
    · exact ⟨_, _, g1, g2, by omega, by omega, by rw [decide_eq_false (by omega)]; rfl⟩
    · exact ⟨_, _, g2, g1, by omega, by omega, by rw [decide_eq_true (by omega)]; rfl⟩
  obtain ⟨r1, r2, a1, a2, a3, a4, a5⟩ := hx
  show f_sSplitTour BIG _ = _
  rw [e_sSplitTour, w_sTourOk ht, Option.bind_some]
  simp only [Bool.not_true, cond_false]
  rw [a1, Option.bind_some, a2, Option.bind_some]
  simp only
  rw [decide_eq_false a3, cond_false, decide_eq_false a4, Option.bind_some, cond_false, a5, Option.bind_some]
  have w1 : IntKind.wrap .i64 ((X.length : Int) + 1) = ((X.length + 1 : Nat) : Int) := wr1 (by omega)
  have w2 : IntKind.wrap .i64 (((X.length + (tr w C).length : Nat) : Int) + 2) = ((X.length + (tr w C).length + 2 : Nat) : Int) := by rw [wr (by omega) (by omega)]; omega
  have w3 : IntKind.wrap .i64 (((X.length + (tr w C).length : Nat) : Int) + 1) = ((X.length + (tr w C).length + 1 : Nat) : Int) := wr1 (by omega)
  have he1 := h.e1
  have he2 := h.e2
  generalize hT : tr r F = T at *
  simp only [w1, w2, w3, Int.toNat_natCast, Nat.sub_zero, List.drop_zero, decide_eq_true (show (0 : Int) ≤ ((X.length + 1 : Nat) : Int) from by omega), decide_eq_true (show (0 : Int) ≤ ((X.length + (tr w C).length + 2 : Nat) : Int) from by omega), decide_eq_true (show (0 : Int) ≤ ((X.length + (tr w C).length + 1 : Nat) : Int) from by omega), cond_true, List.nil_append, List.length_nil]
  have t1 : T.take (X.length + 1) = X ++ [p] := by
    rw [he1, List.take_append, List.take_of_length_le (by omega), show X.length + 1 - X.length = 1 from by omega]; rfl
  have t2 : T.drop (X.length + (tr w C).length + 2) = Y := by
    rw [he1, List.drop_append, List.drop_eq_nil_of_le (by omega), show X.length + (tr w C).length + 2 - X.length = (tr w C).length + 1 + 1 from by omega, List.drop_succ_cons, List.drop_append, List.drop_eq_nil_of_le (by omega), show (tr w C).length + 1 - (tr w C).length = 1 from by omega]; rfl
  have t3 : (T.drop (X.length + 1)).take (X.length + (tr w C).length + 1 - (X.length + 1)) = tr w C := by
    rw [he1, List.drop_append, List.drop_eq_nil_of_le (by omega), show X.length + 1 - X.length = 1 from by omega, List.nil_append, show X.length + (tr w C).length + 1 - (X.length + 1) = (tr w C).length from by omega]
    show List.take (tr w C).length (tr w C ++ p :: Y) = _
    rw [List.take_left]
  have t4 : (T.drop (X.length + (tr w C).length + 2)).take (T.length - (X.length + (tr w C).length + 2)) = Y := by
    rw [List.take_of_length_le (by rw [List.length_drop]; omega), t2]
  rw [t1, t4, t3]
  rw [decide_eq_true (by omega), cond_true, decide_eq_true (by simp only [List.length_append, List.length_cons, List.length_nil]; omega), cond_true, decide_eq_true (by omega), cond_true, decide_eq_true (by simp only [List.length_append, List.length_cons, List.length_nil]; omega), cond_true, decide_eq_true (by omega), cond_true, decide_eq_true (by omega), cond_true, he2]
  simp
end
theorem selT_len (L : List (List Int)) : ∀ n, (selT n L).length ≤ n * L.length
  | 0 => by simp [selT]
  | n + 1 => by
    rw [selT_succ, List.length_append]
    have h1 := selT_len L n
    have h2 := List.length_filter_le (fun t => decide (lsv t = (n : Int))) L
    have h3 : (n + 1) * L.length = n * L.length + L.length := by rw [Nat.add_mul, Nat.one_mul]
    omega
theorem filt_take {L : List (List Int)} {i : Nat} {x : List Int} (hx : L[i]? = some x) (f : List Int → Bool) : (L.take (i + 1)).filter f = (L.take i).filter f ++ (if f x then [x] else []) := by
  rw [List.take_add_one, hx, List.filter_append]
  congr 1
  by_cases h : f x <;> simp [h]
/-- The tours in the order of their least vertices, as the reference takes them. -/
theorem selLoop {n : Nat} (h12 : n ≤ 12) {L : List (List Int)} (hL : ∀ x, x ∈ L → TrT x) (hl : L.length ≤ 100) {C : Type} {P : Option C → Prop} {k : Int × List (List Int) → Option C} (hk : P (k ((n : Int), selT n L))) :
    P (Option.bind (loopT BIG (X := (Int × List ((List (Int)))) × Int) (B := (Int × List ((List (Int))))) (fun self8 x7 =>
     bif decide (x7.2 < (n : Int)) then
      Option.bind (loopT BIG (X := (Int × List ((List (Int)))) × Int) (B := (Int × List ((List (Int))))) (fun self10 x9 =>
        bif decide (x9.2 < (L.length : Int)) then
         Option.bind (bnd L.length x9.2 fun n11 =>
          Option.bind L[n11]? fun y12 =>
          Option.bind (g_sVertsOf y12) fun r13 =>
          bnd r13.1.length (0 : Int) fun n14 =>
          Option.bind r13.1[n14]? fun y15 =>
          bif decide (y15 = x7.2) then
           bnd L.length x9.2 fun n16 =>
           Option.bind L[n16]? fun y17 =>
           bif decide (x9.1.2.length + [y17].length ≤ 4294967296) then
            some (x9.1.1, x9.1.2 ++ [y17])
           else none
          else some x9.1 : Option ((Int × List ((List (Int)))))) fun x18 =>
         self10 (x18, IntKind.wrap .i64 (x9.2 + (1 : Int)))
        else some x9.1) (x7.1, (0 : Int)) : Option ((Int × List ((List (Int)))))) fun x19 =>
      self8 (x19, IntKind.wrap .i64 (x7.2 + (1 : Int)))
     else some x7.1) (((n : Int), []), (0 : Int))) k) := by
  have hm : maxLen = 9223372036854775807 := by decide
  refine loop_bind (x := (((n : Int), ([] : List (List Int))), (0 : Int))) (fun (s : (Int × List (List Int)) × Int) => ∃ v : Nat, s.2 = (v : Int) ∧ v ≤ n ∧ s.1 = ((n : Int), selT v L)) (fun s => n - s.2.toNat) (fun _ (b : Int × List (List Int)) => b = ((n : Int), selT n L)) (P := P) (by simp [BIG]; omega) ⟨0, rfl, by omega, by simp [selT]⟩ (fun self s hx hs => ?_) (fun b hb => by subst hb; exact hk)
  obtain ⟨f, jj⟩ := s
  obtain ⟨v, k1, k2, k3⟩ := hx
  simp only at k1 k2 k3 hs ⊢
  subst k1 k3
  by_cases hv : v < n
  · rw [decide_eq_true (by omega), cond_true]
    have hsl := selT_len L v
    have hsl2 : v * L.length ≤ 12 * 100 := Nat.mul_le_mul (by omega) hl
    refine loop_bind (x := (((n : Int), selT v L), (0 : Int))) (P := fun o => ∃ b, o = some b ∧ b = ((n : Int), selT n L)) (fun (s : (Int × List (List Int)) × Int) => ∃ i : Nat, s.2 = (i : Int) ∧ i ≤ L.length ∧ s.1 = ((n : Int), selT v L ++ (L.take i).filter fun t => decide (lsv t = (v : Int)))) (fun s => L.length - s.2.toNat) (fun _ (b : Int × List (List Int)) => b = ((n : Int), selT (v + 1) L)) (by simp [BIG]; omega) ⟨0, rfl, by omega, by simp⟩ (fun self2 s hx hs2 => ?_) (fun b hb => ?_)
    · obtain ⟨f2, j2⟩ := s
      obtain ⟨i, m1, m2, m3⟩ := hx
      simp only at m1 m2 m3 hs2 ⊢
      subst m1 m3
      by_cases hi : i < L.length
      · have hp := List.getElem?_eq_getElem hi
        generalize hpe : L[i] = p at hp
        have hg := hL p (List.mem_of_getElem? hp)
        have hV := VS_ne hg
        have bi : ∀ {B : Type} {f : Nat → Option B}, bnd L.length (i : Int) f = f i := fun {B f} => bnd_nat hi
        have hfl := List.length_filter_le (fun t => decide (lsv t = (v : Int))) (L.take i)
        rw [List.length_take] at hfl
        have hf' := filt_take hp (fun t => decide (lsv t = (v : Int)))
        simp only [show ((i : Int) < (L.length : Int)) from by omega, decide_true, cond_true, bi, hp, Option.bind_some, u_sVertsOf hg]
        rw [bnd_ok (by omega) (by omega), show Int.toNat 0 = 0 from rfl, lsv_get hg, Option.bind_some]
        by_cases hlv : lsv p = (v : Int)
        · rw [decide_eq_true hlv, cond_true, decide_eq_true (by simp only [List.length_append, List.length_cons, List.length_nil]; omega), cond_true, Option.bind_some, wr1 (by omega)]
          refine hs2 _ ⟨i + 1, rfl, hi, ?_⟩ (by simp; omega)
          rw [hf', decide_eq_true hlv, if_pos rfl, List.append_assoc]
        · rw [decide_eq_false hlv, cond_false, Option.bind_some, wr1 (by omega)]
          refine hs2 _ ⟨i + 1, rfl, hi, ?_⟩ (by simp; omega)
          rw [hf', decide_eq_false hlv, if_neg (by simp), List.append_nil]
      · simp only [show ¬ ((i : Int) < (L.length : Int)) from by omega, decide_false, cond_false]
        exact ⟨_, rfl, by rw [List.take_of_length_le (by omega), selT_succ]⟩
    · subst hb
      rw [wr1 (by omega)]
      exact hs _ ⟨v + 1, rfl, hv, rfl⟩ (by simp; omega)
  · rw [decide_eq_false (by omega), cond_false]
    have : v = n := by omega
    subst this
    exact ⟨_, rfl, rfl⟩
section
variable {n : Nat} {ts : List (List Int)} (h : FoL n ts)
include h
theorem v_sl07With (h12 : n ≤ 12) {out : List Int} {p q : List Int} (hout : ∀ (i : Nat) x, ts[i]? = some x → (((i : Int) ∈ out) ↔ (x = p ∨ x = q))) (hol : out.length ≤ 100) {I : List (List Int)} (hI : ∀ x, x ∈ I → TrT x) (hIl : I.length ≤ 2) :
    g_sl07With (((n : Int), ts), out, I) = some (((n : Int), selT n (wo ts p q ++ I)), ()) := by
  have hm : maxLen = 9223372036854775807 := by decide
  have hsz := h.fllen
  have hwf := h.wo_few p q
  show f_sl07With BIG _ = _
  rw [e_sl07With]
  refine loop_bind (x := (([] : List (List Int)), (0 : Int))) (P := fun o => o = some (((n : Int), selT n (wo ts p q ++ I)), ())) (fun (s : List (List Int) × Int) => ∃ i : Nat, s.2 = (i : Int) ∧ i ≤ ts.length ∧ s.1 = wo (ts.take i) p q) (fun s => ts.length - s.2.toNat)
    (fun _ (b : List (List Int)) => b = wo ts p q) (by simp [BIG]; omega) ⟨0, rfl, by omega, rfl⟩ (fun self s hx hs => ?_) (fun b hb => ?_)
  · obtain ⟨f, jj⟩ := s
    obtain ⟨i, k1, k2, k3⟩ := hx
    simp only at k1 k2 k3 hs ⊢
    subst k1 k3
    by_cases hi : i < ts.length
    · have hp := List.getElem?_eq_getElem hi
      generalize hpe : ts[i] = x at hp
      have hxl := (h.flok x (List.mem_of_getElem? hp)).len
      have hs' := wo_take hp p q
      have hlen : (wo (ts.take i) p q).length ≤ 12 := by
        have := List.length_filter_le (fun t => decide (t ≠ p) && decide (t ≠ q)) (ts.take i)
        rw [List.length_take] at this
        show (List.filter _ _).length ≤ 12
        omega
      have ho := hout i x hp
      simp only [show ((i : Int) < (ts.length : Int)) from by omega, decide_true, cond_true]
      rw [h_sl05In _ _ (by omega), Option.bind_some]
      by_cases hin : (i : Int) ∈ out
      · have hk : ¬ (x ≠ p ∧ x ≠ q) := fun g => (ho.1 hin).elim g.1 g.2
        simp only [decide_eq_true hin, Bool.not_true, cond_false, Option.bind_some]
        rw [wr1 (by omega)]
        refine hs _ ⟨i + 1, rfl, hi, ?_⟩ (by simp; omega)
        rw [hs', if_neg hk, List.append_nil]
      · have hk : x ≠ p ∧ x ≠ q := ⟨fun g => hin (ho.2 (.inl g)), fun g => hin (ho.2 (.inr g))⟩
        simp only [decide_eq_false hin, Bool.not_false, cond_true]
        rw [bnd_nat hi, hp, Option.bind_some, decide_eq_true (by first | omega | (simp only [List.length_nil]; omega)), cond_true, decide_eq_true (by simp only [List.length_cons, List.length_nil]; omega), cond_true, Option.bind_some, wr1 (by omega)]
        refine hs _ ⟨i + 1, rfl, hi, ?_⟩ (by simp; omega)
        rw [hs', if_pos hk]
        rfl
    · simp only [show ¬ ((i : Int) < (ts.length : Int)) from by omega, decide_false, cond_false]
      exact ⟨_, rfl, by rw [List.take_of_length_le (by omega)]⟩
  · subst hb
    rw [decide_eq_true (by omega), cond_true]
    refine selLoop h12 (L := wo ts p q ++ I) (fun x hx => ?_) (by rw [List.length_append]; omega) (P := fun o => o = some (((n : Int), selT n (wo ts p q ++ I)), ())) (k := fun x20 => some (x20, ())) rfl
    rcases List.mem_append.1 hx with g | g
    · exact h.flok x (mem_wo.1 g).1
    · exact hI x g
theorem v_sLink (h1 : 1 ≤ n) (h12 : n ≤ 12) {e : Ed} (he : edB n e = true) : ∃ r, g_sLink (((n : Int), ts), e) = some (r, ()) ∧ (r = ((0 : Int), [], false) ∨ ∃ us, r = ((n : Int), us, true) ∧ FoL n us) := by
  obtain ⟨e0, e1, e2⟩ := edB_f he
  obtain ⟨i, p, i1, i2, i3⟩ := v_sTreeOf h h1 h12 e.1 e0 (by omega)
  obtain ⟨j, q, j1, j2, j3⟩ := v_sTreeOf h h1 h12 e.2 (by omega) e2
  have hl : g_sLink (((n : Int), ts), e) = f_sLink BIG (((n : Int), ts), e) := rfl
  rw [hl, e_sLink, i3, Option.bind_some, j3, Option.bind_some]
  simp only
  rw [h_sEdgeOk, he, Option.bind_some]
  simp only [Bool.not_true, cond_false]
  rw [decide_eq_false (show ¬ (i : Int) < 0 from by omega), cond_false, decide_eq_false (show ¬ (j : Int) < 0 from by omega), cond_false, Option.bind_some]
  by_cases hij : i = j
  · rw [decide_eq_true (by omega), cond_true]
    exact ⟨_, rfl, .inl rfl⟩
  · have hp := List.mem_of_getElem? i1
    have hq := List.mem_of_getElem? j1
    have hpq : q ≠ p := fun g => hij ((h.fl_at j1 i1).2 g).symm
    obtain ⟨J, hJ, eJ⟩ := u_sJoinTours (h.flok p hp) (h.flok q hq) (h.fldj q hq p hp hpq) i2 j2
    rw [decide_eq_false (by omega), cond_false, bnd_nat (List.getElem?_eq_some_iff.1 i1).1, i1, Option.bind_some, bnd_nat (List.getElem?_eq_some_iff.1 j1).1, j1, Option.bind_some, eJ, Option.bind_some]
    simp only
    rw [v_sl07With h h12 (p := p) (q := q) (fun k x hk => ?_) (by simp) (fun x hx => by rw [List.mem_singleton.1 hx]; exact joinP_ok hJ) (by simp), Option.bind_some]
    · exact ⟨_, rfl, .inr ⟨_, rfl, h.fl_linkS hp hq hJ⟩⟩
    · rw [← h.fl_at hk i1, ← h.fl_at hk j1]
      simp only [List.mem_cons, List.not_mem_nil, or_false]
      omega
theorem v_sCut (h1 : 1 ≤ n) (h12 : n ≤ 12) {e : Ed} (hlt : e.1 < e.2) {t : List Int} (ht : t ∈ ts) {m : Nat} (m1 : t[m]? = some e.1) (m2 : t[m + 1]? = some e.2) : ∃ us, g_sCut (((n : Int), ts), e) = some (((n : Int), us, true), ()) ∧ FoL n us := by
  have hg := h.flok t ht
  have e1m := List.mem_of_getElem? m1
  have e2m := List.mem_of_getElem? m2
  have r1 := hg.rg _ e1m
  have r2 := h.flrg t ht _ e2m
  have he : edB n e = true := by
    unfold edB
    simp only [Bool.and_eq_true, inB_t, decide_eq_true_eq]
    omega
  obtain ⟨i, p, i1, i2, i3⟩ := v_sTreeOf h h1 h12 e.1 r1.1 (by omega)
  have hpt := h.flsame (List.mem_of_getElem? i1) ht i2 e1m
  subst hpt
  obtain ⟨r, F, rfl, hF⟩ := hg
  have hm1 := (List.getElem?_eq_some_iff.1 m2).1
  obtain ⟨X, pp, w, C, Y, F', hS⟩ := split_at F r m hm1
  have hpr := (hS.pair hF hm1 m1 m2).2 hS.at'
  have hsp := hS.splp hF
  have hl : g_sCut (((n : Int), ts), e) = f_sCut BIG (((n : Int), ts), e) := rfl
  rw [hl, e_sCut, i3, Option.bind_some]
  simp only
  rw [h_sEdgeOk, he, Option.bind_some]
  simp only [Bool.not_true, cond_false]
  rw [decide_eq_false (show ¬ (i : Int) < 0 from by omega), Option.bind_some, cond_false, bnd_nat (List.getElem?_eq_some_iff.1 i1).1, i1, Option.bind_some, v_sSplitTour hS hF hpr, Option.bind_some]
  simp only [Bool.not_true, cond_false]
  rw [v_sl07With h h12 (p := tr r F) (q := tr r F) (fun k x hk => ?_) (by simp) (fun x hx => ?_) (by simp), Option.bind_some]
  · exact ⟨_, rfl, h.fl_cutS ht hsp⟩
  · rw [← h.fl_at hk i1]
    simp only [List.mem_cons, List.not_mem_nil, or_false]
    omega
  · simp only [List.mem_cons, List.not_mem_nil, or_false] at hx
    rcases hx with rfl | rfl
    · exact hsp.spa
    · exact hsp.spb
theorem v_sEdgesOf (h1 : 1 ≤ n) (h12 : n ≤ 12) : ∃ E, g_sEdgesOf ((n : Int), ts) = some (E, ()) ∧ E.length ≤ 300 ∧ ∀ x, x ∈ E → x.1 < x.2 ∧ ∃ t, t ∈ ts ∧ ∃ m : Nat, t[m]? = some x.1 ∧ t[m + 1]? = some x.2 := by
  have hm : maxLen = 9223372036854775807 := by decide
  have hsz := h.fllen
  show ∃ E, f_sEdgesOf BIG _ = _ ∧ _
  rw [e_sEdgesOf, v_sForestOk h h1 h12, Option.bind_some]
  simp only [Bool.not_true, cond_false]
  refine loop_bind (x := (([] : List Ed), (0 : Int))) (P := fun o => ∃ E, o = some (E, ()) ∧ E.length ≤ 300 ∧ ∀ x, x ∈ E → x.1 < x.2 ∧ ∃ t, t ∈ ts ∧ ∃ m : Nat, t[m]? = some x.1 ∧ t[m + 1]? = some x.2) (fun (s : List Ed × Int) => ∃ i : Nat, s.2 = (i : Int) ∧ i ≤ ts.length ∧ s.1.length ≤ 23 * i ∧ ∀ x, x ∈ s.1 → x.1 < x.2 ∧ ∃ t, t ∈ ts ∧ ∃ m : Nat, t[m]? = some x.1 ∧ t[m + 1]? = some x.2) (fun s => ts.length - s.2.toNat)
    (fun _ (b : List Ed) => b.length ≤ 300 ∧ ∀ x, x ∈ b → x.1 < x.2 ∧ ∃ t, t ∈ ts ∧ ∃ m : Nat, t[m]? = some x.1 ∧ t[m + 1]? = some x.2) (by simp [BIG]; omega) ⟨0, rfl, by omega, by simp, fun x hx => by cases hx⟩ (fun self s hx hs => ?_) (fun b hb => ⟨b, rfl, hb⟩)
  obtain ⟨E, jj⟩ := s
  obtain ⟨i, k1, k2, k3, k4⟩ := hx
  simp only at k1 k2 k3 k4 hs ⊢
  subst k1
  by_cases hi : i < ts.length
  · have hp := List.getElem?_eq_getElem hi
    generalize hpe : ts[i] = t at hp
    have htm := List.mem_of_getElem? hp
    have hl := (h.flok t htm).len
    simp only [show ((i : Int) < (ts.length : Int)) from by omega, decide_true, cond_true]
    rw [bnd_nat hi, hp, Option.bind_some]
    refine loop_bind (x := (E, (0 : Int))) (P := fun o => ∃ b : List Ed, o = some b ∧ b.length ≤ 300 ∧ ∀ x, x ∈ b → x.1 < x.2 ∧ ∃ t, t ∈ ts ∧ ∃ m : Nat, t[m]? = some x.1 ∧ t[m + 1]? = some x.2) (fun (s : List Ed × Int) => ∃ k : Nat, s.2 = (k : Int) ∧ k + 1 ≤ t.length ∧ s.1.length ≤ 23 * i + k ∧ ∀ x, x ∈ s.1 → x.1 < x.2 ∧ ∃ t, t ∈ ts ∧ ∃ m : Nat, t[m]? = some x.1 ∧ t[m + 1]? = some x.2) (fun s => t.length - s.2.toNat)
      (fun _ (b : List Ed) => b.length ≤ 23 * (i + 1) ∧ ∀ x, x ∈ b → x.1 < x.2 ∧ ∃ t, t ∈ ts ∧ ∃ m : Nat, t[m]? = some x.1 ∧ t[m + 1]? = some x.2) (by simp [BIG]; omega) ⟨0, rfl, by omega, by simp only; omega, k4⟩ (fun self2 s2 hx2 hs2 => ?_) (fun b hb => ?_)
    · obtain ⟨E', jk⟩ := s2
      obtain ⟨k, m1, m2, m3, m4⟩ := hx2
      simp only at m1 m2 m3 m4 hs2 ⊢
      subst m1
      rw [wr1 (by omega)]
      by_cases hk : k + 1 < t.length
      · have ta := List.getElem?_eq_getElem (show k < t.length by omega)
        generalize hae : t[k] = a at ta
        have tb := List.getElem?_eq_getElem hk
        generalize hbe : t[k + 1] = b at tb
        have b0 : ∀ {B : Type} {f : Nat → Option B}, bnd t.length (k : Int) f = f k := fun {B f} => bnd_nat (by omega)
        have b1 : ∀ {B : Type} {f : Nat → Option B}, bnd t.length ((k + 1 : Nat) : Int) f = f (k + 1) := fun {B f} => bnd_nat hk
        rw [decide_eq_true (show (((k + 1 : Nat) : Int) < (t.length : Int)) from by omega), cond_true]
        simp only [b0, b1, ta, tb, Option.bind_some]
        by_cases hab : a < b
        · rw [decide_eq_true hab, cond_true, h_sl05Put _ _ (by omega), Option.bind_some, Option.bind_some]
          have hin := ins_len E' (a, b)
          refine hs2 _ ⟨k + 1, rfl, hk, by simp only; omega, fun x hx => ?_⟩ (by simp; omega)
          rcases ins_mem.1 hx with rfl | hx
          · exact ⟨hab, t, htm, k, ta, tb⟩
          · exact m4 x hx
        · rw [decide_eq_false hab, cond_false, Option.bind_some]
          exact hs2 _ ⟨k + 1, rfl, hk, by simp only; omega, m4⟩ (by simp; omega)
      · rw [decide_eq_false (by omega), cond_false]
        exact ⟨_, rfl, by omega, m4⟩
    · rw [wr1 (by omega)]
      exact hs _ ⟨i + 1, rfl, hi, hb.1, hb.2⟩ (by simp; omega)
  · simp only [show ¬ ((i : Int) < (ts.length : Int)) from by omega, decide_false, cond_false]
    exact ⟨_, rfl, by omega, k4⟩
end
/-- A drawn forest. -/
theorem h_sl07Forest (c : Cur) (hc : curOk c) : ∃ (n : Nat) (ts : List (List Int)) (c' : Cur), g_sl07Forest c = some (((n : Int), ts), c') ∧ curOk c' ∧ 2 ≤ n ∧ n ≤ 12 ∧ FoL n ts := by
  have hm : maxLen = 9223372036854775807 := by decide
  obtain ⟨r0, c0, k0, o0, a0, b0, _⟩ := h_sl01Below c 11 hc (by omega)
  have b0 := b0 (by omega)
  obtain ⟨n, hn⟩ : ∃ n : Nat, 2 + r0 = (n : Int) := ⟨(2 + r0).toNat, by omega⟩
  show ∃ (n : Nat) (ts : List (List Int)) (c' : Cur), f_sl07Forest BIG _ = _ ∧ _
  rw [e_sl07Forest, k0, Option.bind_some]
  simp only
  rw [wr (n := 2 + r0) (by omega) (by omega), hn, v_sForestNew (by omega) (by omega), Option.bind_some]
  refine loop_bind (x := (c0, ((n : Int), ones n), (0 : Int))) (P := fun o => ∃ (n : Nat) (ts : List (List Int)) (c' : Cur), o = some (((n : Int), ts), c') ∧ curOk c' ∧ 2 ≤ n ∧ n ≤ 12 ∧ FoL n ts) (fun (s : Cur × (Int × List (List Int)) × Int) => ∃ (i : Nat) (us : List (List Int)), s.2.2 = (i : Int) ∧ i ≤ 16 ∧ curOk s.1 ∧ s.2.1 = ((n : Int), us) ∧ FoL n us) (fun s => 16 - s.2.2.toNat)
    (fun _ (b : Cur × (Int × List (List Int))) => curOk b.1 ∧ ∃ us, b.2 = ((n : Int), us) ∧ FoL n us) (by simp [BIG]) ⟨0, ones n, rfl, by omega, o0, rfl, ones_ok (by omega)⟩ (fun self s hx hs => ?_) (fun b hb => ?_)
  · obtain ⟨cu, f, jj⟩ := s
    obtain ⟨i, us, k1, k2, k3, k4, k5⟩ := hx
    simp only at k1 k2 k3 k4 hs ⊢
    subst k1 k4
    obtain ⟨r1, c1, l1, o1, a1, b1, _⟩ := h_sl01Below cu 16 k3 (by omega)
    have b1 := b1 (by omega)
    rw [l1, Option.bind_some]
    by_cases hi : (i : Int) < r1
    · simp only [decide_eq_true hi, cond_true]
      obtain ⟨E, eE, hE1, hE2⟩ := v_sEdgesOf k5 (by omega) (by omega)
      rw [eE, Option.bind_some]
      have hx : ∃ c2 bb, (bif decide ((0 : Int) < (E.length : Int)) then
          Option.bind (g_sl01Once (c1, (4 : Int))) fun r6 => some (r6.2, r6.1)
         else some (c1, false) : Option (Cur × Bool)) = some (c2, bb) ∧ curOk c2 ∧ (bb = true → 0 < E.length) := by
        by_cases h0 : 0 < E.length
        · obtain ⟨bb, c2, l2, o2⟩ := h_sl01Once c1 4 o1 (by omega)
          rw [decide_eq_true (by omega), cond_true, l2]
          exact ⟨c2, bb, rfl, o2, fun _ => h0⟩
        · rw [decide_eq_false (by omega), cond_false]
          exact ⟨c1, false, rfl, o1, fun g => by cases g⟩
      obtain ⟨c2, bb, hx, o2, hbb⟩ := hx
      simp only
      rw [hx, Option.bind_some]
      cases bb with
      | true =>
        have h0 := hbb rfl
        obtain ⟨r3, c3, l3, o3, a3, b3, _⟩ := h_sl01Below c2 (E.length : Int) o2 (by omega)
        have b3 := b3 (by omega)
        obtain ⟨k, rfl⟩ : ∃ k : Nat, r3 = (k : Int) := ⟨r3.toNat, by omega⟩
        have hk : k < E.length := by omega
        have hy := List.getElem?_eq_getElem hk
        generalize hye : E[k] = y at hy
        obtain ⟨g1, t, g2, m, g3, g4⟩ := hE2 y (List.mem_of_getElem? hy)
        obtain ⟨vs, ev, hv⟩ := v_sCut k5 (by omega) (by omega) g1 g2 g3 g4
        simp only [cond_true]
        rw [l3, Option.bind_some]
        simp only
        rw [bnd_nat hk, hy, Option.bind_some, ev, Option.bind_some, Option.bind_some]
        simp only
        rw [wr1 (by omega)]
        exact hs _ ⟨i + 1, vs, rfl, by omega, o3, rfl, hv⟩ (by simp; omega)
      | false =>
        obtain ⟨e, c3, l3, o3, he⟩ := h_sl05Edge c2 (n : Int) o2 (by omega) (by omega)
        obtain ⟨r, er, hr⟩ := v_sLink k5 (by omega) (by omega) he
        simp only [cond_false]
        rw [l3, Option.bind_some]
        simp only
        rw [er, Option.bind_some]
        rcases hr with rfl | ⟨vs, rfl, hv⟩
        · simp only [cond_false, Option.bind_some]
          rw [wr1 (by omega)]
          exact hs _ ⟨i + 1, us, rfl, by omega, o3, rfl, k5⟩ (by simp; omega)
        · simp only [cond_true, Option.bind_some]
          rw [wr1 (by omega)]
          exact hs _ ⟨i + 1, vs, rfl, by omega, o3, rfl, hv⟩ (by simp; omega)
    · simp only [decide_eq_false hi, cond_false]
      exact ⟨_, rfl, o1, us, rfl, k5⟩
  · obtain ⟨cu, f⟩ := b
    obtain ⟨hb1, us, hb2, hb3⟩ := hb
    simp only at hb1 hb2 ⊢
    subst hb2
    exact ⟨n, us, cu, rfl, hb1, by omega, by omega, hb3⟩
theorem h_sDrawRightForest (a : List Int) (ha : a.length ≤ 1048576) : ∃ (n : Nat) (ts : List (List Int)) (e : Ed), g_sDrawRightForest a = some (((n : Int), ts, e), ()) ∧ 2 ≤ n ∧ n ≤ 12 ∧ FoL n ts ∧ edB n e = true := by
  show ∃ (n : Nat) (ts : List (List Int)) (e : Ed), f_sDrawRightForest BIG _ = _ ∧ _
  obtain ⟨c0, k0, o0⟩ := h_sl01New a ha
  obtain ⟨n, ts, c1, k1, o1, h2, h12, hF⟩ := h_sl07Forest c0 o0
  obtain ⟨e, c2, k2, o2, he⟩ := h_sl05Edge c1 (n : Int) o1 (by omega) (by omega)
  rw [e_sDrawRightForest, k0, Option.bind_some, k1, Option.bind_some]
  simp only
  rw [k2, Option.bind_some]
  exact ⟨n, ts, e, rfl, h2, h12, hF, he⟩
theorem v_lsameInts (a b : List Int) (ha : a.length ≤ maxLen) : g_lsameInts (a, b) = some (decide (a = b), ()) := by
  show f_lsameInts BIG _ = _
  rw [e_lsameInts]
  by_cases hl : a.length = b.length
  · rw [decide_eq_true (by omega), Bool.not_true, cond_false, eqLoop a b ha hl false]
    · by_cases h : a = b <;> simp [h]
    · intro self i x y hx hy
      have hi := (List.getElem?_eq_some_iff.1 hx).1
      simp only [show ((i : Int) < (a.length : Int)) from by omega, decide_true, cond_true]
      rw [bnd_nat hi, hx, Option.bind_some, bnd_nat (by omega), hy, Option.bind_some, wr1 (by omega)]
      by_cases h1 : x = y <;> simp [h1]
    · intro self
      simp
  · rw [decide_eq_false (by omega), Bool.not_false, cond_true, decide_eq_false (fun h => hl (by rw [h]))]
theorem v_lparts {n : Nat} {ts : List (List Int)} (h : FoL n ts) (h1 : 1 ≤ n) (h12 : n ≤ 12) : ∃ L, g_lparts ((n : Int), ts) = some (L, ()) ∧ PtL n ts ts.length L := by
  have hm : maxLen = 9223372036854775807 := by decide
  have hsz := h.fllen
  show ∃ L, f_lparts BIG _ = _ ∧ _
  rw [e_lparts, decide_eq_true (by omega), cond_true, decide_eq_true (by simp only [Int.toNat_natCast]; omega), cond_true]
  simp only [Int.toNat_natCast]
  refine loop_bind (x := (List.replicate n (0 : Int), (0 : Int))) (P := fun o => ∃ L, o = some (L, ()) ∧ PtL n ts ts.length L) (fun (s : List Int × Int) => ∃ i : Nat, s.2 = (i : Int) ∧ i ≤ ts.length ∧ PtL n ts i s.1) (fun s => ts.length - s.2.toNat)
    (fun _ (b : List Int) => PtL n ts ts.length b) (by simp [BIG]; omega) ⟨0, rfl, by omega, by simp, fun j t hj => by omega⟩ (fun self s hx hs => ?_) (fun b hb => ⟨b, rfl, hb⟩)
  obtain ⟨L, jj⟩ := s
  obtain ⟨i, k1, k2, k3⟩ := hx
  simp only at k1 k2 k3 hs ⊢
  subst k1
  by_cases hi : i < ts.length
  · have hp := List.getElem?_eq_getElem hi
    generalize hpe : ts[i] = p at hp
    have hpm := List.mem_of_getElem? hp
    have hg := h.flok p hpm
    have hV := VS_ne hg
    have hV12 := VS_le p
    simp only [show ((i : Int) < (ts.length : Int)) from by omega, decide_true, cond_true]
    rw [bnd_nat hi, hp, Option.bind_some, u_sVertsOf hg, Option.bind_some]
    refine loop_bind (x := (L, (0 : Int))) (P := fun o => ∃ b : List Int, o = some b ∧ PtL n ts ts.length b)
      (fun (s : List Int × Int) => ∃ j : Nat, s.2 = (j : Int) ∧ j ≤ (VS p).length ∧ PtL n ts i s.1 ∧ ∀ (m : Nat) x, m < j → (VS p)[m]? = some x → s.1[x.toNat]? = some (lsv p)) (fun s => (VS p).length - s.2.toNat)
      (fun _ (b : List Int) => PtL n ts (i + 1) b) (by simp [BIG]; omega) ⟨0, rfl, by omega, k3, fun m x hm => by omega⟩ (fun self2 s2 hx2 hs2 => ?_) (fun b hb => ?_)
    · obtain ⟨M, jk⟩ := s2
      obtain ⟨j, m1, m2, m3, m4⟩ := hx2
      simp only at m1 m2 m3 m4 hs2 ⊢
      subst m1
      by_cases hj : j < (VS p).length
      · have hy := List.getElem?_eq_getElem hj
        generalize hye : (VS p)[j] = y at hy
        have hyp := (VS_mem hg).1 (List.mem_of_getElem? hy)
        have hyr := hg.rg y hyp
        have hyn := h.flrg p hpm y hyp
        have hML := m3.ptl
        have bj : ∀ {B : Type} {f : Nat → Option B}, bnd (VS p).length (j : Int) f = f j := fun {B f} => bnd_nat hj
        have hset : ∀ z : Nat, (M.set y.toNat (lsv p))[z]? = if y.toNat = z then some (lsv p) else M[z]? := by
          intro z
          rw [List.getElem?_set]
          by_cases hz : y.toNat = z
          · rw [if_pos hz, if_pos hz, if_pos (by omega)]
          · rw [if_neg hz, if_neg hz]
        simp only [show ((j : Int) < ((VS p).length : Int)) from by omega, decide_true, cond_true, bj, hy, Option.bind_some]
        rw [decide_eq_true (by omega), cond_true, bnd_ok (by omega) (by omega), show Int.toNat 0 = 0 from rfl, lsv_get hg, Option.bind_some, bnd_ok (by omega) (by omega), List.getElem?_eq_getElem (show y.toNat < M.length by omega), Option.bind_some, Option.bind_some, wr1 (by omega)]
        refine hs2 _ ⟨j + 1, rfl, hj, ⟨by simp only [List.length_set]; exact hML, fun j' t hj' ht x hx => ?_⟩, fun m x hm hx => ?_⟩ (by simp; omega)
        · simp only
          have hne : y.toNat ≠ x.toNat := by
            intro he
            have hxr := (h.flok t (List.mem_of_getElem? ht)).rg x hx
            have hxy : x = y := by omega
            subst hxy
            have := h.flidx ht hp hx hyp
            omega
          rw [hset, if_neg hne]
          exact m3.ptv j' t hj' ht x hx
        · simp only
          rw [hset]
          by_cases hz : y.toNat = x.toNat
          · rw [if_pos hz]
          · rw [if_neg hz]
            have hmj : m ≠ j := by
              rintro rfl
              rw [hy] at hx
              cases hx
              exact hz rfl
            exact m4 m x (by omega) hx
      · simp only [show ¬ ((j : Int) < ((VS p).length : Int)) from by omega, decide_false, cond_false]
        refine ⟨_, rfl, m3.ptl, fun j' t hj' ht x hx => ?_⟩
        by_cases hji : j' = i
        · subst hji
          rw [hp] at ht
          cases ht
          obtain ⟨m, hml, hmx⟩ := List.getElem_of_mem ((VS_mem hg).2 hx)
          exact m4 m x (by omega) (by rw [List.getElem?_eq_getElem hml, hmx])
        · exact m3.ptv j' t (by omega) ht x hx
    · rw [wr1 (by omega)]
      exact hs _ ⟨i + 1, rfl, hi, hb⟩ (by simp; omega)
  · simp only [show ¬ ((i : Int) < (ts.length : Int)) from by omega, decide_false, cond_false]
    have : i = ts.length := by omega
    subst this
    exact ⟨_, rfl, k3⟩
theorem law_lFnForests (a : List Int) (h : a.length ≤ maxLen) : g_lFnForests a = some (true, ()) := by
  have hm : maxLen = 9223372036854775807 := by decide
  show f_lFnForests BIG _ = _
  rw [e_lFnForests, h_lbig, Option.bind_some]
  by_cases ha : a.length ≤ 1048576
  case neg => rw [decide_eq_true (by omega)]; rfl
  rw [decide_eq_false (by omega), cond_false]
  obtain ⟨n, ts, e, k1, h2, h12, hF, he⟩ := h_sDrawRightForest a ha
  have h1 : 1 ≤ n := by omega
  obtain ⟨e0, e1, e2⟩ := edB_f he
  obtain ⟨i, j, p, q, i1, i2, j1, j2, i3, j3, hcase⟩ := v_iLink hF h1 h12 he
  have hp := List.mem_of_getElem? i1
  have hq := List.mem_of_getElem? j1
  rw [k1, Option.bind_some]
  simp only
  rw [i3, Option.bind_some, j3, Option.bind_some]
  rcases hcase with ⟨hij, hL⟩ | ⟨hij, J, hJ, hL⟩
  · rw [hL, Option.bind_some, v_iForestOk hF h1 h12, Option.bind_some]
    simp only [Bool.not_true, cond_false]
    rw [decide_eq_false (show ¬ (i : Int) < 0 from by omega), cond_false, decide_eq_false (show ¬ (j : Int) < 0 from by omega), cond_false, decide_eq_true (show (i : Int) = (j : Int) from by omega)]
    rfl
  · rw [hL, Option.bind_some, v_iForestOk hF h1 h12, Option.bind_some]
    simp only [Bool.not_true, cond_false]
    rw [decide_eq_false (show ¬ (i : Int) < 0 from by omega), cond_false, decide_eq_false (show ¬ (j : Int) < 0 from by omega), cond_false, decide_eq_false (show ¬ (i : Int) = (j : Int) from by omega)]
    have hpq : p ≠ q := fun g => hij ((hF.fl_at i1 j1).2 g)
    have hG := hF.fl_link hp hq hJ
    have hJG : J ∈ insT J (wo ts p q) := mem_insT.2 (.inl rfl)
    have hlen : (insT J (wo ts p q)).length + 1 = ts.length := by
      have := wo_len hF hp hq hpq
      rw [insT_len]; omega
    have hcut : ∀ y : List Int, (∀ x, x ∈ y ↔ x ∈ q) → ∀ t, t ∈ ts → ∀ x, x ∈ t → ∃ u, u ∈ insT y (insT p (wo (insT J (wo ts p q)) J J)) ∧ x ∈ u ∧ lsv u = lsv t := fun y my => fl_back hF hp hq (joinP_mem hJ) my (joinP_ok hJ)
    generalize hGe : insT J (wo ts p q) = G at *
    obtain ⟨k, hkl, hke⟩ := List.getElem_of_mem hJG
    have hk : G[k]? = some J := by rw [List.getElem?_eq_getElem hkl, hke]
    have hadj := joinP_adj hJ
    rw [ed_lt e1] at hadj
    obtain ⟨hJ1, hJ2⟩ := adj_mem hadj
    obtain ⟨y, hS, hy, eC⟩ := v_iCut hG h1 h12 he hk hJ
    have hH := hG.fl_cut hJG hS
    have hback := hcut y hy
    generalize hHe : insT y (insT p (wo G J J)) = H at *
    obtain ⟨E, eE, hE⟩ := v_iEdgesOf hG h1 h12
    obtain ⟨E0, eE0, hE0⟩ := v_iEdgesOf hF h1 h12
    obtain ⟨L1, l1, l2⟩ := v_lparts hH h1 h12
    obtain ⟨L0, l3, l4⟩ := v_lparts hF h1 h12
    have hLL := ptl_eq hF l4 l2 hback
    obtain ⟨k', p', q1, q2, q3⟩ := v_iTreeOf hG h1 h12 e.1 e0 (by omega)
    obtain ⟨k2, p2, q4, q5, q6⟩ := v_iTreeOf hG h1 h12 e.2 (by omega) e2
    have hk1 := hG.flidx q1 hk q2 hJ1
    have hk2 := hG.flidx q4 hk q5 hJ2
    have hc := EdI.count hG hE
    have hc0 := EdI.count hF hE0
    have hts := hF.fllen
    have hVp := VS_le p
    have hVq := VS_le q
    have hin : e ∈ E := (hE.edm e).2 ⟨k, hkl, J, hk, hadj⟩
    have hl1 := l2.ptl
    simp only [Option.bind_some, Bool.not_false, beq_self_eq_true, Bool.not_true, cond_false]
    rw [eC, Option.bind_some, v_iSizeOf hF h1 h12 e.1 e0 (by omega) i1 i2, Option.bind_some, v_iSizeOf hF h1 h12 e.2 (by omega) e2 j1 j2, Option.bind_some, eE, Option.bind_some]
    simp only [cond_true]
    rw [v_iForestOk hG h1 h12, Option.bind_some]
    simp only [cond_true]
    rw [wr (n := (ts.length : Int) - 1) (by omega) (by omega), decide_eq_true (by omega), cond_true, v_iSizeOf hG h1 h12 e.1 e0 (by omega) hk hJ1, Option.bind_some, wr (n := ((VS p).length : Int) + ((VS q).length : Int)) (by omega) (by omega), decide_eq_true (by rw [joinP_size hJ]; omega), cond_true,
      q3, Option.bind_some, q6, Option.bind_some, decide_eq_true (by omega), cond_true, h_lhas _ _ (by omega), Option.bind_some, decide_eq_true hin]
    simp only [cond_true]
    rw [eE0, Option.bind_some, wr1 (by simp only; omega), decide_eq_true (by simp only; omega), cond_true, l1, Option.bind_some, l3, Option.bind_some, v_lsameInts _ _ (by simp only; omega), Option.bind_some, decide_eq_true hLL.symm]
    simp only [cond_true]
    rw [v_sForestOk hH h1 h12]
    rfl
end Go.Fw
