/- What the given functions come to. No conditions. -/
import Derived.Test.YtjjfihpihnifcaaM0
set_option linter.unusedVariables false
set_option linter.unusedSimpArgs false
namespace Go.Fw
theorem w_sWebOk (n : Int) (L : List Led) (hL : L.length ≤ 1048576) : ∃ b, g_sWebOk (n, L) = some (b, ()) ∧ (b = true ↔ 0 ≤ n ∧ WOk n.toNat L) := by
  have hm : maxLen = 9223372036854775807 := by decide
  show ∃ b, f_sWebOk BIG _ = _ ∧ _
  have hG : g_sGraphOf (n, L) = some ((n, gE L), ()) := h_sGraphOf n L hL
  rw [e_sWebOk, hG, Option.bind_some, w_sGraphOk _ _ (by unfold gE; rw [List.length_map]; exact hL), Option.bind_some]
  by_cases hg : grB n (gE L) = true
  case neg =>
    rw [show grB n (gE L) = false by simpa using hg]
    simp only [Bool.not_false, cond_true, Option.bind_some]
    refine ⟨false, rfl, ⟨(fun h => by cases h), fun ⟨h1, h2⟩ => ?_⟩⟩
    have := h2.gr
    rw [Int.toNat_of_nonneg h1] at this
    exact absurd this hg
  obtain ⟨m, rfl⟩ : ∃ m : Nat, n = (m : Int) := by
    have : 1 ≤ n := by
      have h := hg
      unfold grB at h
      rw [Bool.and_eq_true, inB_t] at h
      omega
    exact ⟨n.toNat, by omega⟩
  rw [hg, Int.toNat_natCast]
  obtain ⟨h1, h12⟩ := gr_n hg
  obtain ⟨hgE, hgn, hL6⟩ := gr_e hg
  simp only [Bool.not_true, cond_false]
  rw [hiLoop L (by omega) (fun x => !inB x.2.2.1 0 4) false (fun self i y hy => ?_) (fun self => by simp)]
  · by_cases hA : L.any (fun x => !inB x.2.2.1 0 4) = true
    · rw [if_pos hA]
      refine ⟨false, rfl, ⟨(fun h => by cases h), fun ⟨_, h2⟩ => ?_⟩⟩
      obtain ⟨x, hx, hp⟩ := List.any_eq_true.1 hA
      rw [show inB x.2.2.1 0 4 = true from inB_t.2 (h2.lv x hx)] at hp
      simp at hp
    · rw [if_neg hA, Option.bind_some]
      have hlv : ∀ x, x ∈ L → 0 ≤ x.2.2.1 ∧ x.2.2.1 ≤ 4 := by
        intro x hx
        have hp : ¬ (!inB x.2.2.1 0 4) = true := fun h => hA (List.any_eq_true.2 ⟨x, hx, h⟩)
        cases hb : inB x.2.2.1 0 4 with
        | true => exact inB_t.1 hb
        | false => rw [hb] at hp; simp at hp
      simp only
      refine loop_bind (x := ((m : Int), (0 : Int))) (P := fun o => ∃ b, o = some (b, ()) ∧ (b = true ↔ 0 ≤ (m : Int) ∧ WOk m L)) (fun (s : Int × Int) => ∃ k : Nat, s.2 = (k : Int) ∧ k ≤ 5 ∧ s.1 = ((m / 2 ^ k : Nat) : Int) ∧ ∀ j : Nat, j < k → LvOk m L j) (fun s => 5 - s.2.toNat)
        (fun _ (b : Unit ⊕ Bool) => (b = .inl () ∧ ∀ k : Nat, k < 5 → LvOk m L k) ∨ (b = .inr false ∧ ¬ ∀ k : Nat, k < 5 → LvOk m L k)) (by simp [BIG]) ⟨0, rfl, by omega, by simp, fun j h => by omega⟩ (fun self s hx hs => ?_) (fun b hb => ?_)
      · obtain ⟨mo, kk⟩ := s
        obtain ⟨k, k1, k2, k3, k4⟩ := hx
        simp only at k1 k2 k3 k4 hs ⊢
        subst k1 k3
        by_cases hk : k ≤ 4
        · obtain ⟨hE, hEn, hEl⟩ := gr_at hg (k : Int)
          obtain ⟨r, b, r1, r2, r3⟩ := w_sForestAt (n := m) L (k : Int) h1 h12 hL hE
          rw [decide_eq_true (by omega), cond_true, r1, Option.bind_some]
          cases b with
          | false =>
            simp only [Bool.not_false, cond_true, Option.bind_some]
            refine ⟨_, rfl, .inr ⟨rfl, fun h => ?_⟩⟩
            have := r2.2 (h k (by omega)).1
            cases this
          | true =>
            obtain ⟨Fs, rfl, hF⟩ := r3 rfl
            have htl := trs_len Fs
            have hsz := hF.size
            have hnc := r2.1 rfl
            simp only [Bool.not_true, cond_false]
            rw [hiLoop Fs (by omega) (fun p => decide (1 < (p.1 :: p.2.vs).length) && decide (m / 2 ^ k < (p.1 :: p.2.vs).length)) false (fun self2 i y hy => ?_) (fun self2 => by simp [htl])]
            · by_cases hT : Fs.any (fun p => decide (1 < (p.1 :: p.2.vs).length) && decide (m / 2 ^ k < (p.1 :: p.2.vs).length)) = true
              · rw [if_pos hT]
                refine ⟨_, rfl, .inr ⟨rfl, fun h => ?_⟩⟩
                obtain ⟨p, hp, hq⟩ := List.any_eq_true.1 hT
                rw [Bool.and_eq_true, decide_eq_true_eq, decide_eq_true_eq] at hq
                have := (sz_iff hg hF _).2 (h k (by omega)).2.1 p hp hq.1
                omega
              · rw [if_neg hT, Option.bind_some]
                have hszk := (sz_iff hg hF (m / 2 ^ k)).1 fun p hp hq => by
                  apply Classical.byContradiction
                  intro hlt
                  exact hT (List.any_eq_true.2 ⟨p, hp, by rw [Bool.and_eq_true, decide_eq_true_eq, decide_eq_true_eq]; omega⟩)
                simp only
                rw [hiLoop L (by omega) (fun x => !x.2.2.2 && (decide (x.2.2.1 = (k : Int)) && !decide (lbl m L k x.1 = lbl m L k x.2.1))) false (fun self3 i y hy => ?_) (fun self3 => by simp)]
                · by_cases hU : L.any (fun x => !x.2.2.2 && (decide (x.2.2.1 = (k : Int)) && !decide (lbl m L k x.1 = lbl m L k x.2.1))) = true
                  · rw [if_pos hU]
                    refine ⟨_, rfl, .inr ⟨rfl, fun h => ?_⟩⟩
                    obtain ⟨x, hx, hq⟩ := List.any_eq_true.1 hU
                    simp only [Bool.and_eq_true, Bool.not_eq_true', decide_eq_true_eq, decide_eq_false_iff_not] at hq
                    exact hq.2.2 ((h k (by omega)).2.2 x hx hq.1 hq.2.1)
                  · rw [if_neg hU, Option.bind_some]
                    simp only
                    rw [decide_eq_false (by omega), cond_false, Option.bind_some]
                    have hdiv : IntKind.wrap .i64 (Int.tdiv ((m / 2 ^ k : Nat) : Int) 2) = ((m / 2 ^ (k + 1) : Nat) : Int) := by
                      have h0 : m / 2 ^ k ≤ m := Nat.div_le_self ..
                      have h2 : Int.tdiv ((m / 2 ^ k : Nat) : Int) 2 = ((m / 2 ^ (k + 1) : Nat) : Int) := by
                        rw [Nat.pow_succ, ← Nat.div_div_eq_div_mul]
                        rfl
                      have h3 : m / 2 ^ (k + 1) ≤ m := Nat.div_le_self ..
                      have h4 : (0 : Int) ≤ ((m / 2 ^ (k + 1) : Nat) : Int) := Int.natCast_nonneg _
                      rw [h2, wr (by omega) (by omega)]
                    simp only
                    rw [hdiv, wr1 (by omega)]
                    refine hs _ ⟨k + 1, rfl, by omega, rfl, fun j hj => ?_⟩ (by simp; omega)
                    by_cases hjk : j = k
                    · subst hjk
                      refine ⟨hnc, hszk, fun x hx ht hl => ?_⟩
                      apply Classical.byContradiction
                      intro hne
                      refine hU (List.any_eq_true.2 ⟨x, hx, ?_⟩)
                      rw [ht, decide_eq_true hl, decide_eq_false hne]
                      rfl
                    · exact k4 j (by omega)
                · have hi := (List.getElem?_eq_some_iff.1 hy).1
                  have hye := edB_in (hgE (y.1, y.2.1) (List.mem_map.2 ⟨y, List.mem_of_getElem? hy, rfl⟩))
                  simp only at hye
                  obtain ⟨ja, pa, a1, a2, a3⟩ := w_sTreeOf hE hF h12 h1 y.1 hye.1 hye.2.1
                  obtain ⟨jb, pb, b1, b2, b3⟩ := w_sTreeOf hE hF h12 h1 y.2.1 hye.2.2.1 hye.2.2.2.1
                  have hiff : ((ja : Int) = (jb : Int)) ↔ lbl m L k y.1 = lbl m L k y.2.1 := by
                    rw [lbl_iff hg (k : Int) ⟨hye.1, hye.2.1⟩ ⟨hye.2.2.1, hye.2.2.2.1⟩]
                    constructor
                    · intro h
                      have : ja = jb := by omega
                      subst this
                      rw [a1, Option.some.injEq] at b1
                      subst b1
                      have hG := hF.gt pa (List.mem_of_getElem? a1)
                      exact ((hG.con hE _).1 a2).symm.trans ((hG.con hE _).1 b2)
                    · intro h
                      have := hF.idx hE a1 b1 a2 b2 h
                      omega
                  simp only [show ((i : Int) < (L.length : Int)) from by omega, decide_true, cond_true]
                  rw [bnd_nat hi, hy, Option.bind_some, wr1 (by omega)]
                  cases ht : y.2.2.2 with
                  | true => rfl
                  | false =>
                    simp only [Bool.not_false, cond_true, Bool.true_and]
                    by_cases hl : y.2.2.1 = (k : Int)
                    · rw [decide_eq_true hl, cond_true, a3, Option.bind_some, b3, Option.bind_some, Option.bind_some]
                      by_cases hq : lbl m L k y.1 = lbl m L k y.2.1
                      · rw [decide_eq_true hq, decide_eq_true (hiff.2 hq)]; rfl
                      · rw [decide_eq_false hq, decide_eq_false (fun h => hq (hiff.1 h))]; rfl
                    · rw [decide_eq_false hl, cond_false]; rfl
            · have hi := (List.getElem?_eq_some_iff.1 hy).1
              obtain ⟨V, v1, _, _, v4, _, v6⟩ := hF.verts h12 (List.mem_of_getElem? hy)
              rw [decide_eq_true (by omega), cond_true, bnd_nat (by omega), trs_get hy, Option.bind_some, v1, Option.bind_some, wr1 (by omega)]
              simp only
              rw [← v4]
              by_cases c1 : 1 < V.length
              · rw [decide_eq_true (show ((1 : Int) < (V.length : Int)) by omega), decide_eq_true c1, cond_true, Option.bind_some, Bool.true_and]
                by_cases c2 : m / 2 ^ k < V.length
                · rw [decide_eq_true (by omega), decide_eq_true c2]; rfl
                · rw [decide_eq_false (by omega), decide_eq_false c2]; rfl
              · rw [decide_eq_false (show ¬ ((1 : Int) < (V.length : Int)) by omega), decide_eq_false c1]; rfl
        · rw [decide_eq_false (by omega), cond_false]
          exact ⟨_, rfl, .inl ⟨rfl, fun j hj => k4 j (by omega)⟩⟩
      · rcases hb with ⟨rfl, h⟩ | ⟨rfl, h⟩
        · exact ⟨true, rfl, ⟨fun _ => ⟨by omega, (wok_iff hg hlv).2 h⟩, fun _ => rfl⟩⟩
        · exact ⟨false, rfl, ⟨(fun h => by cases h), fun ⟨_, h2⟩ => absurd ((wok_iff hg hlv).1 h2) h⟩⟩
  · have hi := (List.getElem?_eq_some_iff.1 hy).1
    simp only [show ((i : Int) < (L.length : Int)) from by omega, decide_true, cond_true]
    rw [bnd_nat hi, hy, Option.bind_some, h_sl01In', Option.bind_some, wr1 (by omega)]
    cases inB y.2.2.1 0 4 <;> rfl
theorem w_sWebLabels (n : Nat) (L : List Led) (hL : L.length ≤ 1048576) : ∃ V, g_sWebLabels ((n : Int), L) = some (V, ()) ∧ (WOk n L → V = labs n (atE L 0)) ∧ (¬ WOk n L → V = []) := by
  have hm : maxLen = 9223372036854775807 := by decide
  obtain ⟨b, b1, b2⟩ := w_sWebOk n L hL
  rw [Int.toNat_natCast] at b2
  show ∃ V, f_sWebLabels BIG _ = _ ∧ _
  rw [e_sWebLabels, b1, Option.bind_some]
  cases b with
  | false => exact ⟨[], rfl, fun h => (by have := b2.2 ⟨by omega, h⟩; cases this), fun _ => rfl⟩
  | true =>
    have h := (b2.1 rfl).2
    have hg := h.gr
    obtain ⟨h1, h12⟩ := gr_n hg
    obtain ⟨hE, hEn, hEl⟩ := gr_at hg 0
    obtain ⟨r, b', r1, r2, r3⟩ := w_sForestAt (n := n) L 0 h1 h12 hL hE
    obtain ⟨Fs, rfl, hF⟩ := r3 (r2.2 h.nc)
    have hll := labs_len n (atE L 0)
    have hlab := labs_ok (gr_ein hg 0)
    refine ⟨labs n (atE L 0), ?_, fun _ => rfl, fun hn => absurd h hn⟩
    simp only [Bool.not_true, cond_false]
    rw [r1, Option.bind_some]
    simp only
    refine loop_bind (x := ([], (0 : Int))) (P := fun o => o = some (labs n (atE L 0), ())) (fun (s : List Int × Int) => ∃ i : Nat, s.2 = i ∧ i ≤ n ∧ s.1 = (labs n (atE L 0)).take i) (fun s => n - s.2.toNat)
      (fun _ (V : List Int) => V = labs n (atE L 0)) (by simp [BIG]; omega) ⟨0, rfl, by omega, by simp⟩ (fun self s hx hs => ?_) (fun V hV => by rw [hV])
    obtain ⟨s, j⟩ := s
    obtain ⟨i, k1, k2, k3⟩ := hx
    simp only at k1 k2 k3 hs ⊢
    subst k1 k3
    by_cases hi : i < n
    · obtain ⟨j, p, p1, p2, p3⟩ := w_sTreeOf hE hF h12 h1 (i : Int) (by omega) (by omega)
      have hjl := (List.getElem?_eq_some_iff.1 p1).1
      have hpm := List.mem_of_getElem? p1
      have hG := hF.gt p hpm
      obtain ⟨V, v1, _, _, v4, v5, v6⟩ := hF.verts h12 hpm
      have htl := trs_len Fs
      rw [decide_eq_true (by omega), cond_true, p3, Option.bind_some, bnd_nat (by omega), trs_get p1, Option.bind_some, v1, Option.bind_some]
      have hV0 : 0 < V.length := by rw [v4]; simp
      rw [bnd_ok (by omega) (by simp only; omega), show Int.toNat 0 = 0 from rfl]
      simp only
      rw [v5, Option.bind_some, decide_eq_true (by simp only [List.length_take, List.length_cons, List.length_nil]; omega), cond_true, wr1 (by omega)]
      have hgi := List.getElem?_eq_getElem (show i < (labs n (atE L 0)).length by omega)
      have hmin := hlab.2 i _ hgi
      have hc : Con (atE L 0) i p.1 := ((hG.con hE _).1 p2).symm
      have e1 : (labs n (atE L 0))[i] = p.1 := by
        have l1 := hmin.2.2 p.1 (hG.rg _ (List.mem_cons_self ..)).1 hc
        have l2 := hF.mn p hpm _ ((hG.con hE _).2 (hc.symm.trans hmin.1))
        omega
      refine hs _ ⟨i + 1, rfl, by omega, ?_⟩ (by simp; omega)
      simp only
      rw [List.take_succ_eq_append_getElem (by omega), e1]
    · rw [decide_eq_false (by omega), cond_false]
      have : i = n := by omega
      subst this
      exact ⟨_, rfl, by rw [List.take_of_length_le (by omega)]⟩
theorem h_ShardOk (x0 x1 : Int) (x2 : List Led) (y : An) (h2 : x2.length ≤ 1048576) (h5 : y.2.2.1.length ≤ 1048576) (h6 : y.2.2.2.length ≤ 1048576) :
    ∃ b, g_iShardOk (x0, x1, x2, y) = some (b, ()) ∧ g_sShardOk (x0, x1, x2, y) = some (b, ()) ∧ (b = true ↔ (1 ≤ x0 ∧ x0 ≤ 3) ∧ 0 ≤ x1 ∧ WOk x1.toNat x2 ∧ (blA y = true ∨ ansB x1 y = true ∧ y.2.2.2 = labs x1.toNat (atE x2 0))) := by
  have hm : maxLen = 9223372036854775807 := by decide
  show ∃ b, f_iShardOk BIG _ = _ ∧ f_sShardOk BIG _ = _ ∧ _
  rw [e_iShardOk, e_sShardOk, h_iin', h_sl01In', Option.bind_some, Option.bind_some]
  by_cases h0 : inB x0 1 3 = true
  case neg =>
    rw [show inB x0 1 3 = false by simpa using h0]
    exact ⟨false, rfl, rfl, ⟨(fun h => by cases h), fun h => absurd (inB_t.2 h.1) h0⟩⟩
  rw [h0]
  obtain ⟨b, b1, b2⟩ := w_iWebOk x1 x2 h2
  obtain ⟨b', b1', b2'⟩ := w_sWebOk x1 x2 h2
  have hbb : b' = b := by
    cases b <;> cases b' <;> simp_all
  subst hbb
  simp only [Bool.not_true, cond_false, b1, b1', Option.bind_some]
  cases b' with
  | false =>
    refine ⟨false, rfl, rfl, ⟨(fun h => by cases h), fun h => ?_⟩⟩
    have := b2.2 ⟨h.2.1, h.2.2.1⟩
    cases this
  | true =>
    obtain ⟨n0, hw⟩ := b2.1 rfl
    simp only [Bool.not_true, cond_false]
    rw [h_inoAnswer, h_sl10Blank _ (by omega) (by omega), Option.bind_some, Option.bind_some]
    cases hb : blA y with
    | true => exact ⟨true, rfl, rfl, ⟨fun _ => ⟨inB_t.1 h0, n0, hw, .inl rfl⟩, fun _ => rfl⟩⟩
    | false =>
      simp only [cond_false]
      rw [h_iAnswerOk _ _ h5 h6, h_sAnswerOk _ _ h5 h6, Option.bind_some, Option.bind_some]
      cases ha : ansB x1 y with
      | false => exact ⟨false, rfl, rfl, ⟨(fun h => by cases h), fun h => by
          rcases h.2.2.2 with h | ⟨h, _⟩ <;> cases h⟩⟩
      | true =>
        obtain ⟨m, rfl⟩ : ∃ m : Nat, x1 = (m : Int) := ⟨x1.toNat, by omega⟩
        rw [Int.toNat_natCast] at hw ⊢
        obtain ⟨V, v1, v2, _⟩ := w_iWebLabels m x2 h2
        obtain ⟨V', v1', v2', _⟩ := w_sWebLabels m x2 h2
        rw [v2 hw] at v1
        rw [v2' hw] at v1'
        simp only [cond_true]
        rw [v1, v1', Option.bind_some, Option.bind_some, w_isameInts _ _ (by omega), h_sl05SameInts _ _ (by omega), Option.bind_some, Option.bind_some]
        refine ⟨_, rfl, rfl, ?_⟩
        rw [decide_eq_true_eq]
        exact ⟨fun h => ⟨inB_t.1 h0, n0, hw, .inr ⟨by trivial, h⟩⟩, fun h => by
          rcases h.2.2.2 with h | ⟨_, h⟩
          · cases h
          · exact h⟩
theorem law_lFnExactShardOk (x0 x1 : Int) (x2 : List Led) (x3 : Int) (x4 : Bool) (x5 : List Ed) (x6 : List Int) (q2 : x2.length ≤ maxLen) (q5 : x5.length ≤ maxLen) (q6 : x6.length ≤ maxLen) : g_lFnExactShardOk (x0, x1, x2, x3, x4, x5, x6) = some (true, ()) := by
  show f_lFnExactShardOk BIG _ = _
  rw [e_lFnExactShardOk]
  have hs := sz_Shard x0 x1 x2 x3 x4 x5 x6 1048576 (by omega) (by omega) q2 q5 q6
  by_cases hz : ((x2.length + x5.length + x6.length : Nat) : Int) ≤ 1048576
  case neg =>
    rw [if_neg hz] at hs
    rw [hs]; rfl
  rw [if_pos hz] at hs
  have hz' : x2.length + x5.length + x6.length ≤ 1048576 := by omega
  obtain ⟨b, b1, b2, _⟩ := h_ShardOk x0 x1 x2 (x3, x4, x5, x6) (by omega) (by simp only; omega) (by simp only; omega)
  simp only [hs, Option.bind_some, decide_eq_false (show ¬ ((1048576 : Int) - ((x2.length + x5.length + x6.length : Nat) : Int) < 0) from by omega), cond_false, to_Shard x0 x1 x2 x3 x4 x5 x6 hz', b1, b2, eq_Shard x0 x1 x2 x3 x4 x5 x6 (by omega), beq_self_eq_true, Bool.not_true]
end Go.Fw
