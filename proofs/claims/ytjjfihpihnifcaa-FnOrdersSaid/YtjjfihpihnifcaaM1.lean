/- What the given functions come to. No conditions. -/
import Derived.Test.YtjjfihpihnifcaaM0
set_option linter.unusedVariables false
set_option linter.unusedSimpArgs false
namespace Go.Fw
/-- The edges of a tour. -/
structure TrE (v : Int) (f : FT) (E : List Ed) : Prop where
  nd : E.Nodup
  mem : ∀ a b, (a, b) ∈ E ↔ a < b ∧ ((a, b) ∈ f.pr v ∨ (b, a) ∈ f.pr v)
section
variable {v : Int} {f : FT} {E : List Ed} (ht : TrOk v f) (hE : TrE v f E)
include ht
theorem pr_uni {a a' b : Int} (h : (a, b) ∈ f.pr v) (h' : (a', b) ∈ f.pr v) : a = a' := snd_un (by rw [pr_snd]; exact (List.nodup_cons.1 ht.nd).2) h h'
include hE
theorem TrE.fo : Fo 12 E (fun a b => (a, b) ∈ f.pr v) (fun x => (v :: f.vs).idxOf x) where
  rg := fun {a b} h => by
    have h1 := ht.rg a (pr_fst f h)
    have h2 := ht.rg b (List.mem_cons_of_mem _ (pr_in h))
    omega
  ad := fun u x => by
    by_cases hxu : x < u
    · rw [if_pos hxu, hE.mem]
      exact ⟨fun h => h.2.symm, fun h => ⟨hxu, h.symm⟩⟩
    · rw [if_neg hxu, hE.mem]
      refine ⟨fun h => h.2, fun h => ⟨?_, h⟩⟩
      by_cases he : u = x
      · subst he
        have : (u, u) ∈ f.pr v := by rcases h with h | h <;> exact h
        have := pr_rk ht.nd this
        omega
      · omega
  un := fun {a a' b} h h' => pr_uni ht h h'
  up := fun {a b} h => pr_rk ht.nd h
theorem TrE.edB : ∀ e, e ∈ E → edB (12 : Nat) e = true := by
  rintro ⟨a, b⟩ he
  have h := (hE.mem a b).1 he
  have ha : a ∈ v :: f.vs := by
    rcases h.2 with h | h
    · exact pr_fst f h
    · exact List.mem_cons_of_mem _ (pr_in h)
  have hb : b ∈ v :: f.vs := by
    rcases h.2 with h | h
    · exact List.mem_cons_of_mem _ (pr_in h)
    · exact pr_fst f h
  have h1 := ht.rg a ha
  have h2 := ht.rg b hb
  unfold Go.Fw.edB
  simp only [Bool.and_eq_true, inB_t, decide_eq_true_eq]
  omega
theorem TrE.len : E.length = f.vs.length := by
  rw [← pr_len f v]
  have hprn : (f.pr v).Nodup := by
    have : ((f.pr v).map (·.2)).Nodup := by rw [pr_snd]; exact (List.nodup_cons.1 ht.nd).2
    exact List.Pairwise.of_map (·.2) (fun a b h he => h (by rw [he])) this
  have hN : ((f.pr v).map fun e => if e.1 < e.2 then e else (e.2, e.1)).Nodup := by
    refine nodup_mp _ _ hprn ?_
    rintro ⟨a, b⟩ hx ⟨c, d⟩ hy h
    have r1 := pr_rk ht.nd hx
    have r2 := pr_rk ht.nd hy
    simp only at h
    split at h <;> split at h
    · exact h
    · cases h; omega
    · simp only [Prod.mk.injEq] at h
      obtain ⟨rfl, rfl⟩ := h
      omega
    · simp only [Prod.mk.injEq] at h
      rw [h.1, h.2]
  have l1 := nodup_sub E ((f.pr v).map fun e => if e.1 < e.2 then e else (e.2, e.1)) hE.nd (by
    rintro ⟨a, b⟩ he
    have h := (hE.mem a b).1 he
    rw [List.mem_map]
    rcases h.2 with h2 | h2
    · exact ⟨(a, b), h2, by simp [h.1]⟩
    · exact ⟨(b, a), h2, by simp only; rw [if_neg (by omega)]⟩)
  have l2 := nodup_sub _ E hN (by
    rintro ⟨a, b⟩ he
    rw [List.mem_map] at he
    obtain ⟨⟨c, d⟩, h1, h2⟩ := he
    have r1 := pr_rk ht.nd h1
    have hcd : c ≠ d := by rintro rfl; omega
    simp only at h2
    split at h2
    · rename_i hlt
      cases h2
      exact (hE.mem _ _).2 ⟨hlt, .inl h1⟩
    · cases h2
      exact (hE.mem _ _).2 ⟨by omega, .inr h1⟩)
  rw [List.length_map] at l1 l2
  omega
theorem TrE.con : ∀ x, x ∈ v :: f.vs → Con E v x := by
  intro x hx
  rw [List.mem_cons] at hx
  rcases hx with rfl | hx
  · exact .refl _
  · refine pr_reach f v (Con E v) (.refl _) (fun a b hab ha => ?_) x hx
    have hne : a ≠ b := by
      rintro rfl
      have := pr_rk ht.nd hab
      omega
    by_cases hlt : a < b
    · exact .fwd ha ((hE.mem a b).2 ⟨hlt, .inl hab⟩)
    · exact .bwd ha ((hE.mem b a).2 ⟨by omega, .inr hab⟩)
end
theorem TrE.of {v : Int} {f : FT} {E : List Ed} (hnd : E.Nodup)
    (hm : ∀ a b : Int, (a, b) ∈ E ↔ ∃ k : Nat, k + 1 < (tr v f).length ∧ (tr v f)[k]? = some a ∧ (tr v f)[k + 1]? = some b ∧ a < b) : TrE v f E where
  nd := hnd
  mem := fun a b => by
    rw [hm]
    constructor
    · rintro ⟨k, h1, h2, h3, h4⟩
      refine ⟨h4, ?_⟩
      obtain ⟨p, w, g1, g2⟩ := split_pr f v k h1
      rcases g2 with ⟨g2, g3⟩ | ⟨g2, g3⟩
      · rw [h2] at g2
        rw [h3] at g3
        cases g2; cases g3
        exact .inl g1
      · rw [h2] at g2
        rw [h3] at g3
        cases g2; cases g3
        exact .inr g1
    · rintro ⟨h1, h2⟩
      have : ∃ k, (tr v f)[k]? = some a ∧ (tr v f)[k + 1]? = some b := by
        rcases h2 with h2 | h2
        · exact (pr_at f v a b h2).1
        · exact (pr_at f v b a h2).2
      obtain ⟨k, k1, k2⟩ := this
      exact ⟨k, (List.getElem?_eq_some_iff.1 k2).1, k1, k2, h1⟩
section
variable {v : Int} {f : FT} {E : List Ed} (ht : TrOk v f) (hE : TrE v f E)
include ht hE
/-- The tour by these edges. -/
theorem TrE.tour : ∃ g, g_sTourOf ((12 : Int), E, v) = some ((tr v g, true), ()) ∧ g_iTourOf ((12 : Int), E, v) = some ((tr v g, true), ()) ∧ (∀ x, x ∈ tr v g ↔ x ∈ tr v f) ∧ (tr v g).length = 2 * E.length + 1 := by
  have F := TrE.fo ht hE
  have hed := TrE.edB ht hE
  have hel := TrE.len ht hE
  have hfl := ht.len
  have hv := ht.rg v (List.mem_cons_self ..)
  obtain ⟨g, e1, g2, g3, g4, g5⟩ := h_sTourOfS F (by omega) (by omega) (by omega) hed v (by omega)
  have h12 : ((12 : Nat) : Int) = 12 := rfl
  rw [h12] at e1
  have hgl : g.vs.length ≤ 12 := by
    have := nodup_le 12 (v :: g.vs) g2 g3
    simp only [List.length_cons] at this; omega
  obtain ⟨b, b1, b2⟩ := w_irings 12 E (by omega) (by omega) (by omega) hed
  have hb : b = false := by
    cases b with
    | false => rfl
    | true =>
      obtain ⟨i, hi, hc⟩ := b2.1 rfl
      exact absurd hc (Fo.noring F hed hE.nd i hi)
  subst hb
  have e2 := iTourOf_pre (n := 12) (by omega) (by omega) (by omega) hed v (by omega) b1
  rw [cond_false, w_iwalk F hed (by omega) 64 v (-1) g g4 g5 (by omega) (by omega), Option.bind_some, h12] at e2
  have hms : ∀ x, x ∈ v :: g.vs ↔ x ∈ v :: f.vs := by
    intro x
    constructor
    · intro hx
      rw [List.mem_cons] at hx
      rcases hx with rfl | hx
      · exact List.mem_cons_self ..
      · obtain ⟨z, hz⟩ := GF_adj g v (fun w hw => ((g4.2 w).1 hw).2) g5 x hx
        rcases hz with hz | hz
        · exact List.mem_cons_of_mem _ (pr_in hz)
        · exact pr_fst f hz
    · intro hx
      rw [List.mem_cons] at hx
      rcases hx with rfl | hx
      · exact List.mem_cons_self ..
      · refine pr_reach f v (fun x => x ∈ v :: g.vs) (List.mem_cons_self ..) (fun a b hab ha => ?_) x hx
        rw [List.mem_cons] at ha
        rcases ha with rfl | ha
        · have hb := ht.rg b (List.mem_cons_of_mem _ (pr_in hab))
          exact List.mem_cons_of_mem _ (rts_vs g ((g4.2 b).2 ⟨by omega, .inr hab⟩))
        · rcases GF_closed g v g5 a ha b (.inr hab) with h | h
          · exact List.mem_cons_of_mem _ h
          · rw [h]; exact List.mem_cons_self ..
  have l1 := nodup_sub _ _ g2 (fun x hx => (hms x).1 hx)
  have l2 := nodup_sub _ _ ht.nd (fun x hx => (hms x).2 hx)
  simp only [List.length_cons] at l1 l2
  refine ⟨g, e1, e2, fun x => ?_, ?_⟩
  · rw [tr_mem, tr_mem, hms]
  · rw [tr_len, hel]; omega
/-- One edge more makes a ring. -/
theorem TrE.more {a b : Int} (hab : a < b) (ha : a ∈ v :: f.vs) (hb : b ∈ v :: f.vs) : g_iTourOf ((12 : Int), E ++ [(a, b)], v) = some (([], false), ()) := by
  have hel := TrE.len ht hE
  have hfl := ht.len
  have hv := ht.rg v (List.mem_cons_self ..)
  have h1 := ht.rg a ha
  have h2 := ht.rg b hb
  have hed : ∀ e, e ∈ E ++ [(a, b)] → Go.Fw.edB (12 : Nat) e = true := by
    intro e he
    rw [List.mem_append, List.mem_singleton] at he
    rcases he with he | rfl
    · exact TrE.edB ht hE e he
    · unfold Go.Fw.edB
      simp only [Bool.and_eq_true, inB_t, decide_eq_true_eq]
      omega
  have hl : (E ++ [(a, b)]).length = E.length + 1 := by simp
  obtain ⟨r, b1, b2⟩ := w_irings 12 (E ++ [(a, b)]) (by omega) (by omega) (by omega) hed
  have hr : r = true := b2.2 ⟨E.length, by omega, by
    have hg : (E ++ [(a, b)])[E.length]'(by omega) = (a, b) := by simp
    rw [hg, List.take_left]
    exact (TrE.con ht hE a ha).symm.trans (TrE.con ht hE b hb)⟩
  subst hr
  exact iTourOf_pre (n := 12) (by omega) (by omega) (by omega) hed v (by omega) b1
end
def ed (a b : Int) : Ed := if a < b then (a, b) else (b, a)
def ad (E : List Ed) (u v : Int) : Prop := (u, v) ∈ E ∨ (v, u) ∈ E
theorem ad_symm {E : List Ed} {u v : Int} (h : ad E u v) : ad E v u := h.symm
theorem con_ed {E : List Ed} {a b : Int} (h : ed a b ∈ E) : Con E a b := by
  unfold ed at h
  split at h
  · exact .of h
  · exact (Con.of h).symm
section
variable {n : Nat} {E : List Ed} (hE : ∀ e, e ∈ E → edB n e = true)
include hE
theorem ed_ad {a b : Int} : ed a b ∈ E ↔ ad E a b := by
  unfold ed ad
  constructor
  · intro h
    split at h
    · exact .inl h
    · exact .inr h
  · rintro (h | h)
    · have := edB_f (hE _ h)
      rw [if_pos this.2.1]; exact h
    · have := edB_f (hE _ h)
      simp only at this
      rw [if_neg (by omega)]; exact h
theorem ad_rg {a b : Int} (h : ad E a b) : (0 ≤ a ∧ a < n) ∧ (0 ≤ b ∧ b < n) ∧ a ≠ b := by
  rcases h with h | h
  · have := edB_f (hE _ h)
    simp only at this
    omega
  · have := edB_f (hE _ h)
    simp only at this
    omega
end
structure GT (n : Nat) (E : List Ed) (v : Int) (f : FT) : Prop where
  nd : (v :: f.vs).Nodup
  rg : ∀ x, x ∈ v :: f.vs → 0 ≤ x ∧ x < n
  rt : RtO (ad E) v (-1) f
  gf : GF (ad E) f v
theorem GF_pr {pa : Int → Int → Prop} : ∀ (f : FT) (v : Int), (∀ w, w ∈ f.rts → pa w v ∨ pa v w) → GF pa f v → ∀ {a b : Int}, (a, b) ∈ f.pr v → pa b a ∨ pa a b
  | .nil, _, _, _, _, _, h => by cases h
  | .nd w c s, v, hr, ⟨⟨hR, hG⟩, hS⟩, a, b, h => by
    simp only [FT.pr, List.mem_cons, List.mem_append, Prod.mk.injEq] at h
    rcases h with ⟨rfl, rfl⟩ | h | h
    · exact hr _ (List.mem_cons_self ..)
    · exact GF_pr c w (fun x hx => ((hR.2 x).1 hx).2) hG h
    · exact GF_pr s v (fun x hx => hr x (List.mem_cons_of_mem _ hx)) hS h
theorem rts_pr : ∀ (f : FT) (v : Int) {z : Int}, z ∈ f.rts → (v, z) ∈ f.pr v
  | .nil, _, _, h => by cases h
  | .nd w c s, v, z, h => by
    simp only [FT.rts, List.mem_cons] at h
    simp only [FT.pr, List.mem_cons, List.mem_append]
    rcases h with rfl | h
    · exact .inl rfl
    · exact .inr (.inr (rts_pr s v h))
theorem GF_edge {pa : Int → Int → Prop} : ∀ (f : FT) (v : Int), GF pa f v → ∀ y, y ∈ f.vs → ∀ z, (pa z y ∨ pa y z) → (y, z) ∈ f.pr v ∨ (z, y) ∈ f.pr v
  | .nil, _, _, y, h, _, _ => by cases h
  | .nd w c s, v, ⟨⟨hR, hG⟩, hS⟩, y, h, z, hz => by
    simp only [FT.vs, List.mem_cons, List.mem_append] at h
    simp only [FT.pr, List.mem_cons, List.mem_append]
    rcases h with rfl | h | h
    · by_cases hzv : z = v
      · subst hzv; exact .inr (.inl rfl)
      · exact .inl (.inr (.inl (rts_pr c y ((hR.2 z).2 ⟨hzv, hz⟩))))
    · rcases GF_edge c w hG y h z hz with h | h
      · exact .inl (.inr (.inl h))
      · exact .inr (.inr (.inl h))
    · rcases GF_edge s v hS y h z hz with h | h
      · exact .inl (.inr (.inr h))
      · exact .inr (.inr (.inr h))
section
variable {n : Nat} {E : List Ed} (hE : ∀ e, e ∈ E → edB n e = true) {v : Int} {f : FT} (h : GT n E v f)
include hE h
theorem GT.con (x : Int) : x ∈ v :: f.vs ↔ Con E v x := by
  constructor
  · intro hx
    rw [List.mem_cons] at hx
    rcases hx with rfl | hx
    · exact .refl _
    · refine pr_reach f v (Con E v) (.refl _) (fun a b hab ha => ?_) x hx
      have := GF_pr f v (fun w hw => ((h.rt.2 w).1 hw).2) h.gf hab
      have had : ad E a b := by
        rcases this with h | h
        · exact ad_symm h
        · exact h
      exact ha.trans (con_ed ((ed_ad hE).2 had))
  · intro hc
    have step : ∀ y z, y ∈ v :: f.vs → ad E y z → z ∈ v :: f.vs := by
      intro y z hy hz
      rw [List.mem_cons] at hy
      rcases hy with rfl | hy
      · have := ad_rg hE hz
        exact List.mem_cons_of_mem _ (rts_vs f ((h.rt.2 z).2 ⟨by omega, .inr hz⟩))
      · rcases GF_closed f v h.gf y hy z (.inr hz) with h | h
        · exact List.mem_cons_of_mem _ h
        · rw [h]; exact List.mem_cons_self ..
    induction hc with
    | refl => exact List.mem_cons_self ..
    | fwd _ he ih => exact step _ _ ih (.inl he)
    | bwd _ he ih => exact step _ _ ih (.inr he)
theorem GT.edge {a b : Int} (ha : a ∈ v :: f.vs) (hab : ad E a b) : (a, b) ∈ f.pr v ∨ (b, a) ∈ f.pr v := by
  rw [List.mem_cons] at ha
  rcases ha with rfl | ha
  · have := ad_rg hE hab
    exact .inl (rts_pr f a ((h.rt.2 b).2 ⟨by omega, .inr hab⟩))
  · exact GF_edge f v h.gf a ha b (.inr hab)
end
structure FoOk (n : Nat) (E : List Ed) (Fs : List (Int × FT)) : Prop where
  gt : ∀ p, p ∈ Fs → GT n E p.1 p.2
  mn : ∀ p, p ∈ Fs → ∀ x, x ∈ p.1 :: p.2.vs → p.1 ≤ x
  so : Fs.Pairwise (fun p q => p.1 < q.1)
  cv : ∀ x : Int, 0 ≤ x → x < n → ∃ p, p ∈ Fs ∧ x ∈ p.1 :: p.2.vs
section
variable {n : Nat} {E : List Ed} (hE : ∀ e, e ∈ E → edB n e = true) {Fs : List (Int × FT)} (h : FoOk n E Fs)
include hE h
omit hE in
theorem FoOk.size : Fs.length ≤ n := by
  have := nodup_le n (Fs.map (·.1)) (by
    have : (Fs.map (·.1)).Pairwise (· < ·) := by rw [List.pairwise_map]; exact h.so
    exact this.imp fun h => by omega) (fun x hx => by
    obtain ⟨p, hp, rfl⟩ := List.mem_map.1 hx
    exact (h.gt p hp).rg _ (List.mem_cons_self ..))
  rwa [List.length_map] at this
end
theorem dec_vF : ∀ (k v : Nat) (R : List UInt8), v < 128 ^ (k + 1) → dec (k + 1) (vF k v ++ R) = some (v, (vF k v).length)
  | 0, v, R, h => by
    have hv : v < 128 := by simpa using h
    show dec 1 (by8 (v : Int) :: R) = _
    unfold dec
    rw [by8_toNat (by omega), if_pos hv]
    rfl
  | k + 1, v, R, h => by
    unfold vF
    by_cases hv : v ≤ 127
    · rw [if_pos hv]
      show dec (k + 1 + 1) (by8 (v : Int) :: R) = _
      unfold dec
      rw [by8_toNat (by omega), if_pos (by omega)]
      rfl
    · rw [if_neg hv]
      show dec (k + 1 + 1) (by8 ((v % 128 + 128 : Nat) : Int) :: (vF k (v / 128) ++ R)) = _
      have hd : v / 128 < 128 ^ (k + 1) := by
        rw [Nat.div_lt_iff_lt_mul (by omega)]
        rw [Nat.pow_succ] at h
        exact h
      have ih := dec_vF k (v / 128) R hd
      unfold dec
      rw [by8_toNat (by omega), if_neg (by omega), ih]
      simp only [Option.map_some, List.length_cons, Option.some.injEq, Prod.mk.injEq, and_true]
      omega
theorem rdV_vB {v : Nat} (hv : v ≤ 1000000000) (R : List UInt8) : rdV (vB v ++ R) = some (v, (vB v).length) := by
  unfold rdV
  rw [vB_small (by omega), dec_vF 4 v R (by omega)]
  simp only
  rw [if_pos]
  rw [vB_small (by omega)]
  exact ⟨hv, by rw [List.take_left]⟩
theorem nm_at {T A R : List UInt8} {v : Nat} (hv : v ≤ 1000000000) (hT : T = A ++ (vB v ++ R)) : nm T (A.length, false) = ((v : Int), (A.length + (vB v).length, false)) := by
  unfold nm
  simp only [Bool.false_eq_true, if_false]
  rw [hT, List.drop_left, rdV_vB hv]
theorem on_at {T A R : List UInt8} {b : UInt8} (hT : T = A ++ (b :: R)) : on T (A.length, false) = ((b.toNat : Int), (A.length + 1, false)) := by
  unfold on
  simp only [Bool.false_eq_true, if_false]
  rw [hT, List.getElem?_append_right (Nat.le_refl _), Nat.sub_self]
  rfl
theorem by8_val {x : Int} (h : 0 ≤ x ∧ x ≤ 255) : ((by8 x).toNat : Int) = x := by
  obtain ⟨y, rfl⟩ : ∃ y : Nat, x = (y : Int) := ⟨x.toNat, by omega⟩
  rw [by8_toNat (by omega)]
theorem edF_at : ∀ (es : List Ed) {T A R : List UInt8} (out : List Ed), (∀ e, e ∈ es → (0 ≤ e.1 ∧ e.1 ≤ 255) ∧ (0 ≤ e.2 ∧ e.2 ≤ 255)) → T = A ++ (es.flatMap e2 ++ R) →
    edF T es.length (A.length, false) out = ((A.length + 2 * es.length, false), out ++ es)
  | [], T, A, R, out, _, _ => by simp [edF]
  | e :: es, T, A, R, out, he, hT => by
    have h0 := he e (List.mem_cons_self ..)
    have hT1 : T = A ++ (by8 e.1 :: (by8 e.2 :: (es.flatMap e2 ++ R))) := by rw [hT]; simp [e2]
    have o1 := on_at hT1
    have hT2 : T = (A ++ [by8 e.1]) ++ (by8 e.2 :: (es.flatMap e2 ++ R)) := by rw [hT1]; simp
    have o2 := on_at hT2
    have hT3 : T = (A ++ [by8 e.1] ++ [by8 e.2]) ++ (es.flatMap e2 ++ R) := by rw [hT1]; simp
    have ih := edF_at es (A := A ++ [by8 e.1] ++ [by8 e.2]) (out ++ [e]) (fun x hx => he x (List.mem_cons_of_mem _ hx)) hT3
    rw [by8_val h0.1] at o1
    rw [by8_val h0.2] at o2
    simp only [List.length_append, List.length_cons, List.length_nil] at o2 ih
    show (if (A.length, false).2 then _ else _) = _
    simp only [Bool.false_eq_true, if_false]
    rw [o1]
    simp only
    rw [o2]
    simp only
    rw [ih]
    simp only [List.append_assoc, List.singleton_append, List.length_cons]
    congr 2
    omega
theorem lbF_at : ∀ (L : List Int) {T A R : List UInt8} (out : List Int), (∀ x, x ∈ L → 0 ≤ x ∧ x ≤ 255) → T = A ++ (L.map by8 ++ R) → lbF T L.length (A.length, false) out = ((A.length + L.length, false), out ++ L)
  | [], T, A, R, out, _, _ => by simp [lbF]
  | x :: L, T, A, R, out, hx, hT => by
    have h0 := hx x (List.mem_cons_self ..)
    have hT1 : T = A ++ (by8 x :: (L.map by8 ++ R)) := by rw [hT]; simp
    have o1 := on_at hT1
    rw [by8_val h0] at o1
    have hT2 : T = (A ++ [by8 x]) ++ (L.map by8 ++ R) := by rw [hT1]; simp
    have ih := lbF_at L (A := A ++ [by8 x]) (out ++ [x]) (fun y hy => hx y (List.mem_cons_of_mem _ hy)) hT2
    simp only [List.length_append, List.length_cons, List.length_nil] at ih
    show lbF T L.length (on T (A.length, false)).2 (out ++ [(on T (A.length, false)).1]) = _
    rw [o1]
    simp only
    rw [ih]
    simp only [List.append_assoc, List.singleton_append, List.length_cons]
    congr 2
    omega
theorem eOk_255 {n : Int} {es : List Ed} (h : eOk n es = true) (hn : n ≤ 12) : ∀ e, e ∈ es → (0 ≤ e.1 ∧ e.1 ≤ 255) ∧ (0 ≤ e.2 ∧ e.2 ≤ 255) := fun e he => by
  have := (eOk_srt h).1 e he
  simp only [edB, Bool.and_eq_true, inB_t, decide_eq_true_eq] at this
  omega
theorem rdO_oT {n : Int} {o : Or'} (h : ordB n o = true) : rdO n (oT o) = some o := by
  obtain ⟨a1, a2, a3, a4, a5, a6, a7, a8, a9⟩ := ordB_in h
  have hl := eOk_len a9
  obtain ⟨num, op, es, v⟩ := o
  simp only at a3 a4 a5 a6 a7 a8 a9 hl
  generalize hT : oT (num, op, es, v) = T
  have hT0 : T = [] ++ (vB num.toNat ++ ([by8 op] ++ (vB v.toNat ++ (vB es.length ++ (es.flatMap e2 ++ []))))) := by
    rw [← hT]; simp [oT, eT]
  have e0 : q0 T = (num, ((vB num.toNat).length, false)) := by
    have := nm_at (T := T) (A := []) (v := num.toNat) (by omega) hT0
    simp only [List.length_nil, Nat.zero_add] at this
    rw [show ((num.toNat : Nat) : Int) = num from by omega] at this
    exact this
  have hT1 : T = vB num.toNat ++ (by8 op :: (vB v.toNat ++ (vB es.length ++ (es.flatMap e2 ++ [])))) := by rw [hT0]; simp
  have e1 : q1 T = (op, ((vB num.toNat).length + 1, false)) := by
    show on T (q0 T).2 = _
    rw [e0]
    have := on_at hT1
    rw [by8_val (by omega)] at this
    exact this
  have hT2 : T = (vB num.toNat ++ [by8 op]) ++ (vB v.toNat ++ (vB es.length ++ (es.flatMap e2 ++ []))) := by rw [hT1]; simp
  have e2' : q2 T = (v, ((vB num.toNat).length + 1 + (vB v.toNat).length, false)) := by
    show nm T (q1 T).2 = _
    rw [e1]
    have := nm_at (v := v.toNat) (by omega) hT2
    simp only [List.length_append, List.length_cons, List.length_nil] at this
    rw [show ((v.toNat : Nat) : Int) = v from by omega] at this
    exact this
  have hT3 : T = (vB num.toNat ++ [by8 op] ++ vB v.toNat) ++ (vB es.length ++ (es.flatMap e2 ++ [])) := by rw [hT2]; simp
  have e3 : nm T (q2 T).2 = ((es.length : Int), ((vB num.toNat).length + 1 + (vB v.toNat).length + (vB es.length).length, false)) := by
    rw [e2']
    have := nm_at (v := es.length) (by omega) hT3
    simp only [List.length_append, List.length_cons, List.length_nil] at this
    exact this
  have hT4 : T = (vB num.toNat ++ [by8 op] ++ vB v.toNat ++ vB es.length) ++ (es.flatMap e2 ++ []) := by rw [hT3]; simp
  have e4 : q3 T es.length = (((vB num.toNat).length + 1 + (vB v.toNat).length + (vB es.length).length + 2 * es.length, false), es) := by
    show edF T es.length (nm T (q2 T).2).2 [] = _
    rw [e3]
    have := edF_at es [] (eOk_255 a9 a2) hT4
    simp only [List.length_append, List.length_cons, List.length_nil, List.nil_append] at this
    exact this
  have hlen : T.length = (vB num.toNat).length + 1 + (vB v.toNat).length + (vB es.length).length + 2 * es.length := by
    rw [hT4]
    simp only [List.length_append, List.length_cons, List.length_nil, flat2_len]
    omega
  have hoQ : oQ T es.length = (num, op, es, v) := by
    unfold oQ
    rw [e0, e1, e4, e2']
  unfold rdO
  simp only
  rw [e3]
  simp only [Int.toNat_natCast]
  rw [hoQ, e4, hlen, if_pos ⟨rfl, rfl, h⟩]
theorem rdA_aT {n : Int} {a : An} (h : ansB n a = true) : rdA n (aT a) = some a := by
  obtain ⟨a1, a2, a3, a4, a9, a6, a7⟩ := ansB_in h
  have hl := eOk_len a9
  obtain ⟨num, ok, es, L⟩ := a
  simp only at a3 a4 a6 a7 a9 hl
  have hLx : ∀ x, x ∈ L → 0 ≤ x ∧ x ≤ 255 := by
    intro x hx
    obtain ⟨i, hi, rfl⟩ := List.mem_iff_getElem.1 hx
    have hp : ∀ i, i < L.length → lbP L i = true := by
      unfold lbOk at a7
      by_cases hc : (L.length : Int) = n
      · rw [if_pos hc] at a7
        by_cases hp : ∀ i, i < L.length → lbP L i = true
        · exact hp
        · rw [if_neg hp] at a7
          exact absurd a7 (by simp)
      · rw [if_neg hc] at a7
        exact absurd a7 (by simp)
    have := hp i hi
    unfold lbP at this
    rw [List.getElem?_eq_getElem hi] at this
    simp only [Bool.and_eq_true] at this
    have := inB_t.1 this.1
    omega
  generalize hT : aT (num, ok, es, L) = T
  have hT0 : T = [] ++ (vB num.toNat ++ (flT ok ++ (vB es.length ++ (es.flatMap e2 ++ (L.map by8 ++ []))))) := by
    rw [← hT]; simp [aT, eT]
  have e0 : q0 T = (num, ((vB num.toNat).length, false)) := by
    have := nm_at (T := T) (A := []) (v := num.toNat) (by omega) hT0
    simp only [List.length_nil, Nat.zero_add] at this
    rw [show ((num.toNat : Nat) : Int) = num from by omega] at this
    exact this
  have hT1 : T = vB num.toNat ++ ((if ok = true then 1 else 0 : UInt8) :: (vB es.length ++ (es.flatMap e2 ++ (L.map by8 ++ [])))) := by rw [hT0]; simp [flT]
  have e1 : q1 T = ((if ok = true then 1 else 0 : Int), ((vB num.toNat).length + 1, false)) := by
    show on T (q0 T).2 = _
    rw [e0]
    have := on_at hT1
    rw [this]
    cases ok <;> rfl
  have hT2 : T = (vB num.toNat ++ [(if ok = true then 1 else 0 : UInt8)]) ++ (vB es.length ++ (es.flatMap e2 ++ (L.map by8 ++ []))) := by rw [hT1]; simp
  have e3 : nm T (q1 T).2 = ((es.length : Int), ((vB num.toNat).length + 1 + (vB es.length).length, false)) := by
    rw [e1]
    have := nm_at (v := es.length) (by omega) hT2
    simp only [List.length_append, List.length_cons, List.length_nil] at this
    exact this
  have hT4 : T = (vB num.toNat ++ [(if ok = true then 1 else 0 : UInt8)] ++ vB es.length) ++ (es.flatMap e2 ++ (L.map by8 ++ [])) := by rw [hT2]; simp
  have e4 : q4 T es.length = (((vB num.toNat).length + 1 + (vB es.length).length + 2 * es.length, false), es) := by
    show edF T es.length (nm T (q1 T).2).2 [] = _
    rw [e3]
    have := edF_at es [] (eOk_255 a9 a2) hT4
    simp only [List.length_append, List.length_cons, List.length_nil, List.nil_append] at this
    exact this
  have hT5 : T = (vB num.toNat ++ [(if ok = true then 1 else 0 : UInt8)] ++ vB es.length ++ es.flatMap e2) ++ (L.map by8 ++ []) := by rw [hT4]; simp
  have hn : n.toNat = L.length := by omega
  have e5 : q5 T es.length n.toNat = (((vB num.toNat).length + 1 + (vB es.length).length + 2 * es.length + L.length, false), L) := by
    show lbF T n.toNat (q4 T es.length).1 [] = _
    rw [e4, hn]
    have := lbF_at L [] hLx hT5
    simp only [List.length_append, List.length_cons, List.length_nil, List.nil_append, flat2_len] at this
    exact this
  have hlen : T.length = (vB num.toNat).length + 1 + (vB es.length).length + 2 * es.length + L.length := by
    rw [hT5]
    simp only [List.length_append, List.length_cons, List.length_nil, List.length_map, flat2_len]
    omega
  have haQ : aQ T es.length L = (num, ok, es, L) := by
    unfold aQ
    rw [e0, e1, e4]
    cases ok <;> rfl
  unfold rdA
  simp only
  rw [e3]
  simp only [Int.toNat_natCast]
  rw [e5]
  simp only
  rw [haQ, hlen, if_pos]
  refine ⟨inB_t.2 ⟨a1, a2⟩, by trivial, by trivial, ?_, h⟩
  rw [e1]
  cases ok <;> simp
theorem h_sl09Order (c : Cur) (n : Int) (hc : curOk c) (hn : 2 ≤ n) (hn' : n ≤ 12) : ∃ o c', g_sl09Order (c, n) = some (o, c') ∧ curOk c' ∧ o.2.2.1.length ≤ 5 := by
  have hm : maxLen = 9223372036854775807 := by decide
  show ∃ o c', f_sl09Order BIG _ = _ ∧ _
  rw [e_sl09Order]
  obtain ⟨r0, c0, k0, o0, a0, b0, _⟩ := h_sl01Below c 9 hc (by omega)
  have b0 := b0 (by omega)
  obtain ⟨r1, c1, k1, o1⟩ := h_sl01PickInt c0 [1, 1, 1, 2, 2, 3, 4] o0 (by simp) (by simp)
  rw [k0, Option.bind_some, k1, Option.bind_some]
  simp only
  by_cases h3 : r1 = 3
  · obtain ⟨r2, c2, k2, o2, _⟩ := h_sl01Below c1 n o1 (by omega)
    rw [decide_eq_true h3, cond_true, k2, Option.bind_some, Option.bind_some]
    exact ⟨_, _, rfl, o2, by simp⟩
  · rw [decide_eq_false h3, cond_false]
    by_cases h4 : r1 = 4
    · rw [decide_eq_true h4, cond_true]
      refine loop_bind (P := fun z => ∃ (o : Or') (c' : Cur), z = some (o, c') ∧ curOk c' ∧ o.2.2.1.length ≤ 5)
        (fun (s : Cur × Or' × Int) => ∃ i : Nat, s.2.2 = (i : Int) ∧ i ≤ 5 ∧ curOk s.1 ∧ s.2.1.2.2.1.length ≤ i) (fun s => 5 - s.2.2.toNat) (fun _ (b : Cur × Or') => curOk b.1 ∧ b.2.2.2.1.length ≤ 5) (by simp [BIG]) ⟨0, rfl, by omega, o1, by simp⟩ (fun self s hx hs => ?_) (fun b hb => ⟨_, _, rfl, hb⟩)
      obtain ⟨cu, ⟨num, op, es, v⟩, j⟩ := s
      obtain ⟨i, h1, h2, h5, h6⟩ := hx
      simp only at h1 h2 h5 h6 hs ⊢
      subst h1
      obtain ⟨r5, c5, k5, o5, a5, b5, _⟩ := h_sl01Below cu 4 h5 (by omega)
      have b5 := b5 (by omega)
      rw [k5, Option.bind_some]
      simp only
      rw [wr (n := 1 + r5) (by omega) (by omega)]
      by_cases hi : (i : Int) < 1 + r5
      · obtain ⟨e, c6, k6, o6, hed⟩ := h_sl05Edge c5 n o5 hn hn'
        rw [decide_eq_true hi, cond_true, k6, Option.bind_some, h_sl05Has es e (by omega), Option.bind_some]
        by_cases hin : e ∈ es
        · simp only [decide_eq_true hin, Bool.not_true, cond_false, Option.bind_some]
          rw [wr1 (by omega)]
          exact hs _ ⟨i + 1, rfl, by omega, o6, by simp only; omega⟩ (by simp; omega)
        · simp only [decide_eq_false hin, Bool.not_false, cond_true]
          rw [h_sl05Put es e (by omega), Option.bind_some, Option.bind_some]
          simp only
          rw [wr1 (by omega)]
          have := ins_len es e
          exact hs _ ⟨i + 1, rfl, by omega, o6, by simp only; omega⟩ (by simp; omega)
      · rw [decide_eq_false hi, cond_false]
        exact ⟨_, rfl, o5, by simp only; omega⟩
    · obtain ⟨e, c2, k2, o2, _⟩ := h_sl05Edge c1 n o1 hn hn'
      rw [decide_eq_false h4, cond_false, k2, Option.bind_some, Option.bind_some]
      exact ⟨_, _, rfl, o2, by simp⟩
theorem h_sl09AnyOrder (c : Cur) (n : Int) (hc : curOk c) (hn : 2 ≤ n) (hn' : n ≤ 12) : ∃ o c', g_sl09AnyOrder (c, n) = some (o, c') ∧ curOk c' ∧ o.2.2.1.length ≤ 6 := by
  obtain ⟨o, c0, k0, o0, hl⟩ := h_sl09Order c n hc hn hn'
  obtain ⟨r1, c1, k1, o1, _⟩ := h_sl01Below c0 20 o0 (by omega)
  show ∃ o c', f_sl09AnyOrder BIG _ = _ ∧ _
  rw [e_sl09AnyOrder, k0, Option.bind_some, k1, Option.bind_some]
  simp only
  by_cases h0 : r1 = 0
  · obtain ⟨r2, c2, k2, o2⟩ := h_sl01PickInt c1 [0, -1, 100000, 100001] o1 (by simp) (by simp)
    rw [decide_eq_true h0, cond_true, k2, Option.bind_some, Option.bind_some]
    exact ⟨_, _, rfl, o2, by simp only; omega⟩
  rw [decide_eq_false h0, cond_false]
  by_cases h1 : r1 = 1
  · obtain ⟨r2, c2, k2, o2⟩ := h_sl01PickInt c1 [0, 5, 1, 3, 4] o1 (by simp) (by simp)
    rw [decide_eq_true h1, cond_true, k2, Option.bind_some, Option.bind_some]
    exact ⟨_, _, rfl, o2, by simp only; omega⟩
  rw [decide_eq_false h1, cond_false]
  by_cases h2 : r1 = 2
  · obtain ⟨r2, c2, k2, o2⟩ := h_sl01PickInt c1 [-1, 1, 11, 12] o1 (by simp) (by simp)
    rw [decide_eq_true h2, cond_true, k2, Option.bind_some, Option.bind_some]
    exact ⟨_, _, rfl, o2, by simp only; omega⟩
  rw [decide_eq_false h2, cond_false]
  by_cases h3 : r1 = 3
  · obtain ⟨e, c2, k2, o2⟩ := h_sl05AnyEdge c1 o1
    rw [decide_eq_true h3, cond_true, k2, Option.bind_some, decide_eq_true (by simp only [List.length_cons, List.length_nil]; omega), cond_true, Option.bind_some]
    exact ⟨_, _, rfl, o2, by simp only [List.length_append, List.length_cons, List.length_nil]; omega⟩
  · rw [decide_eq_false h3, cond_false, Option.bind_some]
    exact ⟨_, _, rfl, o1, by simp only; omega⟩
theorem h_sDrawOrderText (a : List Int) (ha : a.length ≤ 1048576) : ∃ n o, g_sDrawOrderText a = some ((n, o), ()) ∧ o.2.2.1.length ≤ 6 := by
  have e1 : g_sDrawOrderText a = f_sDrawOrderText BIG a := rfl
  have e2 : g_sDrawOrderOk a = f_sDrawOrderOk BIG a := rfl
  rw [e1, e_sDrawOrderText, e2, e_sDrawOrderOk]
  obtain ⟨c, k, o⟩ := h_sl01New a ha
  obtain ⟨n, c0, k0, o0, a0, b0⟩ := h_sl09N c o
  obtain ⟨x, c1, k1, o1, hl⟩ := h_sl09AnyOrder c0 n o0 a0 b0
  obtain ⟨r3, c3, k3, o3⟩ := h_sl01Once c1 15 o1 (by omega)
  obtain ⟨r4, c4, k4, o4⟩ := h_sl01PickInt c3 [0, 1, 13] o3 (by simp) (by simp)
  rw [k, Option.bind_some, k0, Option.bind_some, k1, Option.bind_some, k3, Option.bind_some]
  cases r3 with
  | true =>
    simp only [cond_true, k4, Option.bind_some]
    exact ⟨_, _, rfl, hl⟩
  | false =>
    simp only [cond_false, Option.bind_some]
    exact ⟨_, _, rfl, hl⟩
theorem h_sl09Answer (c : Cur) (n : Nat) (hc : curOk c) (hn : 2 ≤ n) (hn' : n ≤ 12) : ∃ y c', g_sl09Answer (c, (n : Int)) = some (y, c') ∧ curOk c' ∧ y.2.2.1.length ≤ 8 ∧ y.2.2.2.length = n := by
  have hm : maxLen = 9223372036854775807 := by decide
  show ∃ y c', f_sl09Answer BIG _ = _ ∧ _
  rw [e_sl09Answer]
  refine loop_bind (P := fun z => ∃ (y : An) (c' : Cur), z = some (y, c') ∧ curOk c' ∧ y.2.2.1.length ≤ 8 ∧ y.2.2.2.length = n)
    (fun (s : Cur × (Int × List Ed) × Int) => ∃ i : Nat, s.2.2 = (i : Int) ∧ i ≤ 8 ∧ curOk s.1 ∧ s.2.1.1 = (n : Int) ∧ GrOk s.2.1.1 s.2.1.2 ∧ s.2.1.2.length ≤ i) (fun s => 8 - s.2.2.toNat) (fun _ (b : Cur × (Int × List Ed)) => curOk b.1 ∧ b.2.1 = (n : Int) ∧ GrOk b.2.1 b.2.2 ∧ b.2.2.length ≤ 8) (by simp [BIG]) ⟨0, rfl, by omega, hc, rfl, ⟨by show (2 : Int) ≤ (n : Int); omega, by show (n : Int) ≤ 12; omega, List.Pairwise.nil, by simp⟩, by simp⟩ (fun self s hx hs => ?_) (fun b hb => ?_)
  · obtain ⟨cu, ⟨m, es⟩, j⟩ := s
    obtain ⟨i, h1, h2, h3, h4, h5, h6⟩ := hx
    simp only at h1 h2 h3 h4 h5 h6 hs ⊢
    subst h1 h4
    obtain ⟨r2, c2, k2, o2, a2, b2, _⟩ := h_sl01Below cu 8 h3 (by omega)
    have b2 := b2 (by omega)
    rw [k2, Option.bind_some]
    simp only
    by_cases hi : (i : Int) < r2
    · obtain ⟨e, c3, k3, o3, hed⟩ := h_sl05Edge c2 (n : Int) o2 (by omega) (by omega)
      rw [decide_eq_true hi, cond_true, k3, Option.bind_some, h_sHasEdge _ es e (by omega), Option.bind_some]
      by_cases hin : e ∈ es
      · simp only [decide_eq_true hin, Bool.not_true, cond_false, Option.bind_some]
        rw [wr1 (by omega)]
        exact hs _ ⟨i + 1, rfl, by omega, o3, rfl, h5, by simp only; omega⟩ (by simp; omega)
      · simp only [decide_eq_false hin, Bool.not_false, cond_true]
        rw [h_sl05Put es e (by omega), Option.bind_some, Option.bind_some]
        simp only
        rw [wr1 (by omega)]
        have := ins_len es e
        refine hs _ ⟨i + 1, rfl, by omega, o3, rfl, ⟨h5.1, h5.2.1, ins_srt h5.2.2.1, fun x hx => ?_⟩, by simp only; omega⟩ (by simp; omega)
        rcases ins_mem.1 hx with rfl | hx
        · exact hed
        · exact h5.2.2.2 x hx
    · rw [decide_eq_false hi, cond_false]
      exact ⟨_, rfl, o2, rfl, h5, by simp only; omega⟩
  · obtain ⟨cu, m, es⟩ := b
    obtain ⟨h1, h2, h3, h4⟩ := hb
    simp only at h1 h2 h3 h4 ⊢
    subst h2
    obtain ⟨r8, c8, k8, o8, a8, b8, _⟩ := h_sl01Below cu 9 h1 (by omega)
    obtain ⟨r9, c9, k9, o9⟩ := h_sl01Once c8 2 o8 (by omega)
    have hg : grB (n : Int) es = true := by
      unfold grB
      rw [show inB (n : Int) 1 12 = true from inB_t.2 (by omega), eOk_of h3 (by omega)]
      rfl
    rw [k8, Option.bind_some, k9, Option.bind_some, h_sLabels n es (by omega), hg, Option.bind_some]
    exact ⟨_, _, rfl, o9, by simp only; omega, by simp only [if_true]; exact labs_len n es⟩
theorem h_sl09AnyAnswer (c : Cur) (n : Nat) (hc : curOk c) (hn : 2 ≤ n) (hn' : n ≤ 12) : ∃ y c', g_sl09AnyAnswer (c, (n : Int)) = some (y, c') ∧ curOk c' ∧ y.2.2.1.length ≤ 9 ∧ y.2.2.2.length ≤ 12 := by
  obtain ⟨y, c0, k0, o0, hl, hl'⟩ := h_sl09Answer c n hc hn hn'
  obtain ⟨r1, c1, k1, o1, _⟩ := h_sl01Below c0 20 o0 (by omega)
  show ∃ y c', f_sl09AnyAnswer BIG _ = _ ∧ _
  rw [e_sl09AnyAnswer, k0, Option.bind_some, k1, Option.bind_some]
  simp only
  by_cases h0 : r1 = 0
  · obtain ⟨r2, c2, k2, o2⟩ := h_sl01PickInt c1 [0, -1, 100000, 100001] o1 (by simp) (by simp)
    rw [decide_eq_true h0, cond_true, k2, Option.bind_some, Option.bind_some]
    exact ⟨_, _, rfl, o2, by simp only; omega, by simp only; omega⟩
  rw [decide_eq_false h0, cond_false]
  by_cases h1 : r1 = 1
  · obtain ⟨r3, c3, k3, o3, a3, b3, _⟩ := h_sl01Below c1 (n : Int) o1 (by omega)
    have b3 := b3 (by omega)
    obtain ⟨r4, c4, k4, o4⟩ := h_sl01PickInt c3 [-1, 0, 1, 11] o3 (by simp) (by simp)
    have hlt : r3.toNat < y.2.2.2.length := by omega
    rw [decide_eq_true h1, cond_true, k3, Option.bind_some, k4, Option.bind_some]
    simp only
    rw [bnd_ok a3 (by omega), List.getElem?_eq_getElem hlt, Option.bind_some, Option.bind_some]
    exact ⟨_, _, rfl, o4, by simp only; omega, by simp only [List.length_set]; omega⟩
  rw [decide_eq_false h1, cond_false]
  by_cases h2 : r1 = 2
  · rw [decide_eq_true h2, cond_true, decide_eq_true (by omega), cond_true, decide_eq_true ⟨by show 1 ≤ _; omega, Nat.le_refl _⟩, cond_true, Option.bind_some]
    exact ⟨_, _, rfl, o1, by simp only; omega, by simp only [List.length_take, List.length_drop]; omega⟩
  rw [decide_eq_false h2, cond_false]
  by_cases h3 : r1 = 3
  · obtain ⟨e, c2, k2, o2⟩ := h_sl05AnyEdge c1 o1
    rw [decide_eq_true h3, cond_true, k2, Option.bind_some, decide_eq_true (by simp only [List.length_cons, List.length_nil]; omega), cond_true, Option.bind_some]
    exact ⟨_, _, rfl, o2, by simp only [List.length_append, List.length_cons, List.length_nil]; omega, by simp only; omega⟩
  · rw [decide_eq_false h3, cond_false, Option.bind_some]
    exact ⟨_, _, rfl, o1, by simp only; omega, by simp only; omega⟩
theorem h_sDrawAnswerText (a : List Int) (ha : a.length ≤ 1048576) : ∃ n y, g_sDrawAnswerText a = some ((n, y), ()) ∧ y.2.2.1.length ≤ 9 ∧ y.2.2.2.length ≤ 12 := by
  have e1 : g_sDrawAnswerText a = f_sDrawAnswerText BIG a := rfl
  have e2 : g_sDrawAnswerOk a = f_sDrawAnswerOk BIG a := rfl
  rw [e1, e_sDrawAnswerText, e2, e_sDrawAnswerOk]
  obtain ⟨c, k, o⟩ := h_sl01New a ha
  obtain ⟨n, c0, k0, o0, a0, b0⟩ := h_sl09N c o
  obtain ⟨m, rfl⟩ : ∃ m : Nat, n = (m : Int) := ⟨n.toNat, by omega⟩
  obtain ⟨x, c1, k1, o1, hl, hl'⟩ := h_sl09AnyAnswer c0 m o0 (by omega) (by omega)
  obtain ⟨r3, c3, k3, o3⟩ := h_sl01Once c1 15 o1 (by omega)
  obtain ⟨r4, c4, k4, o4⟩ := h_sl01PickInt c3 [0, 1, 13] o3 (by simp) (by simp)
  rw [k, Option.bind_some, k0, Option.bind_some, k1, Option.bind_some, k3, Option.bind_some]
  cases r3 with
  | true =>
    simp only [cond_true, k4, Option.bind_some]
    exact ⟨_, _, rfl, hl, hl'⟩
  | false =>
    simp only [cond_false, Option.bind_some]
    exact ⟨_, _, rfl, hl, hl'⟩
theorem h_sl01Text (c : Cur) (hc : curOk c) : ∃ T c', g_sl01Text (c, (1 : Int)) = some (BA T, c') ∧ curOk c' ∧ T.length ≤ 1 := by
  show ∃ T c', f_sl01Text BIG _ = _ ∧ _
  rw [e_sl01Text]
  simp only [decide_false, cond_false, show ¬ ((5000 : Int) < 1) from by omega, Option.bind_some]
  refine loop_bind (P := fun z => ∃ (T : List UInt8) (c' : Cur), z = some (BA T, c') ∧ curOk c' ∧ T.length ≤ 1)
    (fun (s : List Int × Cur × Int) => ∃ i : Nat, s.2.2 = (i : Int) ∧ i ≤ 1 ∧ curOk s.2.1 ∧ s.1.length ≤ i) (fun s => 1 - s.2.2.toNat) (fun _ (b : List Int × Cur) => curOk b.2 ∧ b.1.length ≤ 1) (by simp [BIG]) ⟨0, rfl, by omega, hc, by simp⟩ (fun self s hx hs => ?_) (fun b hb => ?_)
  · have hm : maxLen = 9223372036854775807 := by decide
    obtain ⟨l, cu, j⟩ := s
    obtain ⟨i, h1, h2, h3, h4⟩ := hx
    simp only at h1 h2 h3 h4 hs ⊢
    subst h1
    by_cases hi : i < 1
    · obtain ⟨r3, c3, k3, o3, _⟩ := h_sl01Byte cu h3
      rw [decide_eq_true (by omega), cond_true, k3, Option.bind_some, decide_eq_true (by simp only [List.length_cons, List.length_nil]; omega), cond_true, wr1 (by omega)]
      exact hs _ ⟨i + 1, rfl, by omega, o3, by simp only [List.length_append, List.length_cons, List.length_nil]; omega⟩ (by simp; omega)
    · rw [decide_eq_false (by omega), cond_false]
      exact ⟨_, rfl, h3, by simp only; omega⟩
  · obtain ⟨l, cu⟩ := b
    simp only at hb ⊢
    rw [bytesStr_BA]
    exact ⟨_, _, rfl, hb.1, by rw [List.length_map]; exact hb.2⟩
theorem h_sl02Spoilt (c : Cur) (T : List UInt8) (hc : curOk c) (hT : T.length ≤ 500000) : ∃ T' c', g_sl02Spoilt (c, BA T) = some (BA T', c') ∧ curOk c' ∧ T'.length ≤ T.length + 1 := by
  have hm : maxLen = 9223372036854775807 := by decide
  obtain ⟨r0, c0, k0, o0, _⟩ := h_sl01Below c 12 hc (by omega)
  obtain ⟨X, c1, k1, o1, hX⟩ := h_sl01Text c0 o0
  show ∃ T' c', f_sl02Spoilt BIG _ = _ ∧ _
  rw [e_sl02Spoilt, k0, Option.bind_some]
  simp only [BA_size]
  by_cases h0 : r0 = 0
  · rw [decide_eq_true h0, cond_true, k1, Option.bind_some]
    simp only [BA_size]
    rw [decide_eq_true (by omega), cond_true, Option.bind_some]
    simp only [BA_app]
    exact ⟨_, _, rfl, o1, by rw [List.length_append]; omega⟩
  rw [decide_eq_false h0, cond_false]
  by_cases h1 : r0 = 1
  · obtain ⟨r2, c2, k2, o2, a2, b2, _⟩ := h_sl01Below c0 ((T.length : Int) + 1) o0 (by omega)
    have b2 := b2 (by omega)
    rw [decide_eq_true h1, cond_true, wr (by omega) (by omega), k2, Option.bind_some, decide_eq_true ⟨a2, by omega⟩, cond_true, Option.bind_some]
    simp only [BA_ext]
    exact ⟨_, _, rfl, o2, by simp only [List.length_take, List.length_drop]; omega⟩
  rw [decide_eq_false h1, cond_false]
  have hor : (bif decide (r0 = 2) then some true else some (decide (r0 = 3)) : Option Bool) = some (decide (r0 = 2 ∨ r0 = 3)) := by
    by_cases h2 : r0 = 2 <;> by_cases h3 : r0 = 3 <;> simp [h2, h3]
  rw [hor, Option.bind_some]
  by_cases h23 : r0 = 2 ∨ r0 = 3
  · rw [decide_eq_true h23, cond_true]
    by_cases hp : 0 < T.length
    · obtain ⟨r4, c4, k4, o4, a4, b4, _⟩ := h_sl01Below c0 (T.length : Int) o0 (by omega)
      have b4 := b4 (by omega)
      obtain ⟨Y, c5, k5, o5, hY⟩ := h_sl01Text c4 o4
      rw [decide_eq_true (by omega), cond_true, k4, Option.bind_some, decide_eq_true ⟨a4, by omega⟩, cond_true, k5, Option.bind_some]
      simp only [BA_ext, BA_app, BA_size]
      rw [wr (by omega) (by omega), decide_eq_true (by simp only [List.length_take, List.length_drop]; omega), cond_true, decide_eq_true (by omega), cond_true, decide_eq_true (by simp only [List.length_append, List.length_take, List.length_drop]; omega), cond_true, Option.bind_some]
      simp only
      exact ⟨_, _, rfl, o5, by simp only [List.length_append, List.length_take, List.length_drop]; omega⟩
    · rw [decide_eq_false (by omega), cond_false, Option.bind_some]
      exact ⟨T, _, rfl, o0, by omega⟩
  · rw [decide_eq_false h23, cond_false, Option.bind_some]
    exact ⟨T, _, rfl, o0, by omega⟩
theorem h_sDrawReadOrder (a : List Int) (ha : a.length ≤ 1048576) : ∃ n T, g_sDrawReadOrder a = some ((n, BA T), ()) ∧ T.length ≤ 400 := by
  show ∃ n T, f_sDrawReadOrder BIG _ = _ ∧ _
  rw [e_sDrawReadOrder]
  obtain ⟨c, k, o⟩ := h_sl01New a ha
  obtain ⟨n, c0, k0, o0, a0, b0⟩ := h_sl09N c o
  obtain ⟨x, c1, k1, o1, hl⟩ := h_sl09AnyOrder c0 n o0 a0 b0
  obtain ⟨T, hT, hTl⟩ : ∃ T, (if ordB n x = true then (BA (oT x), true) else (BA [], false)).1 = BA T ∧ T.length ≤ 300 := by
    cases h : ordB n x with
    | true => exact ⟨_, by rw [if_pos rfl], oT_len h⟩
    | false => exact ⟨[], by rw [if_neg (by simp)], by simp⟩
  obtain ⟨T', c2, k2, o2, hl2⟩ := h_sl02Spoilt c1 T o1 (by omega)
  rw [k, Option.bind_some, k0, Option.bind_some, k1, Option.bind_some, w_sOrderText n x (by omega), Option.bind_some]
  simp only
  rw [hT, k2, Option.bind_some]
  exact ⟨_, _, rfl, by omega⟩
theorem h_sDrawReadAnswer (a : List Int) (ha : a.length ≤ 1048576) : ∃ n T, g_sDrawReadAnswer a = some ((n, BA T), ()) ∧ T.length ≤ 400 := by
  show ∃ n T, f_sDrawReadAnswer BIG _ = _ ∧ _
  rw [e_sDrawReadAnswer]
  obtain ⟨c, k, o⟩ := h_sl01New a ha
  obtain ⟨n, c0, k0, o0, a0, b0⟩ := h_sl09N c o
  obtain ⟨m, rfl⟩ : ∃ m : Nat, n = (m : Int) := ⟨n.toNat, by omega⟩
  obtain ⟨x, c1, k1, o1, hl, hl'⟩ := h_sl09AnyAnswer c0 m o0 (by omega) (by omega)
  obtain ⟨T, hT, hTl⟩ : ∃ T, (if ansB (m : Int) x = true then (BA (aT x), true) else (BA [], false)).1 = BA T ∧ T.length ≤ 300 := by
    cases h : ansB (m : Int) x with
    | true => exact ⟨_, by rw [if_pos rfl], aT_len h⟩
    | false => exact ⟨[], by rw [if_neg (by simp)], by simp⟩
  obtain ⟨r4, c4, k4, o4⟩ := h_sl01Once c1 15 o1 (by omega)
  obtain ⟨r5, c5, k5, o5⟩ := h_sl01PickInt c4 [-1, 0, 13, 9223372036854775807] o4 (by simp) (by simp)
  rw [k, Option.bind_some, k0, Option.bind_some, k1, Option.bind_some, w_sAnswerText _ x (by omega) (by omega), Option.bind_some, k4, Option.bind_some]
  cases r4 with
  | true =>
    obtain ⟨T', c2, k2, o2, hl2⟩ := h_sl02Spoilt c5 T o5 (by omega)
    simp only [cond_true, k5, Option.bind_some]
    rw [hT, k2, Option.bind_some]
    exact ⟨_, _, rfl, by omega⟩
  | false =>
    obtain ⟨T', c2, k2, o2, hl2⟩ := h_sl02Spoilt c4 T o4 (by omega)
    simp only [cond_false, Option.bind_some]
    rw [hT, k2, Option.bind_some]
    exact ⟨_, _, rfl, by omega⟩
theorem h_lsameAnswer (a : An) (h1 : a.2.2.1.length ≤ maxLen) (h2 : a.2.2.2.length ≤ maxLen) : g_lsameAnswer (a, a) = some (true, ()) := by
  show f_lsameAnswer BIG _ = _
  rw [e_lsameAnswer]
  simp only [decide_true, cond_true, beq_self_eq_true, h_lsameEdges _ _ h1, h_lsameInts _ _ h2, Option.bind_some]
theorem ord_part (n : Int) (o : Or') (hl : o.2.2.1.length ≤ 1048576) : ∃ R : Int × Int × List Ed × Int × Bool, g_iReadOrder (n, (if ordB n o = true then (BA (oT o), true) else (BA [], false)).1) = some (R, ()) ∧
    (Option.bind (g_sOrderOk (n, o)) fun r4 =>
       bif !((if ordB n o = true then (BA (oT o), true) else (BA [], false)).2 == r4.1) then
        some true
       else Option.bind (g_iOrderOk (n, o)) fun r5 =>
       bif !(r5.1 == (if ordB n o = true then (BA (oT o), true) else (BA [], false)).2) then
        some true
       else bif (if ordB n o = true then (BA (oT o), true) else (BA [], false)).2 then
        bif !R.2.2.2.2 then
         some true
        else bif !decide (R.1 = o.1) then
         some true
        else bif !decide (R.2.1 = o.2.1) then
         some true
        else bif !decide (R.2.2.2.1 = o.2.2.2) then
         some true
        else Option.bind (g_lsameEdges (R.2.2.1, o.2.2.1)) fun r6 =>
        some !r6.1
       else some false : Option Bool) = some false := by
  have hm : maxLen = 9223372036854775807 := by decide
  rw [h_sOrderOk n o hl, h_iOrderOk n o hl]
  cases hb : ordB n o with
  | true =>
    have := oT_len hb
    simp only [if_true]
    refine ⟨_, w_iReadOrder n (oT o) (by omega), ?_⟩
    rw [rdO_oT hb]
    simp only [roR, Option.bind_some, beq_self_eq_true, Bool.not_true, cond_false, cond_true, decide_true, h_lsameEdges _ _ (show o.2.2.1.length ≤ maxLen by omega)]
  | false =>
    simp only [Bool.false_eq_true, if_false]
    exact ⟨_, w_iReadOrder n [] (by simp), rfl⟩
theorem ans_part (n : Int) (y : An) (hl : y.2.2.1.length ≤ 1048576) (hl' : y.2.2.2.length ≤ 1048576) : ∃ R : Int × Bool × List Ed × List Int × Bool, g_iReadAnswer (n, (if ansB n y = true then (BA (aT y), true) else (BA [], false)).1) = some (R, ()) ∧
    (Option.bind (g_sAnswerOk (n, y)) fun r11 =>
       bif !((if ansB n y = true then (BA (aT y), true) else (BA [], false)).2 == r11.1) then
        some true
       else Option.bind (g_iAnswerOk (n, y)) fun r12 =>
       bif !(r12.1 == (if ansB n y = true then (BA (aT y), true) else (BA [], false)).2) then
        some true
       else bif (if ansB n y = true then (BA (aT y), true) else (BA [], false)).2 then
        bif !R.2.2.2.2 then
         some true
        else Option.bind (g_lsameAnswer (y, (R.1, R.2.1, R.2.2.1, R.2.2.2.1))) fun r13 =>
        some !r13.1
       else some false : Option Bool) = some false := by
  have hm : maxLen = 9223372036854775807 := by decide
  rw [h_sAnswerOk n y hl hl', h_iAnswerOk n y hl hl']
  cases hb : ansB n y with
  | true =>
    have := aT_len hb
    simp only [if_true]
    refine ⟨_, w_iReadAnswer n (aT y) (by omega), ?_⟩
    rw [rdA_aT hb]
    have he : g_lsameAnswer (y, (y.1, y.2.1, y.2.2.1, y.2.2.2)) = some (true, ()) := h_lsameAnswer y (by omega) (by omega)
    simp only [raR, Option.bind_some, beq_self_eq_true, Bool.not_true, cond_false, cond_true, he]
  | false =>
    simp only [Bool.false_eq_true, if_false]
    exact ⟨_, w_iReadAnswer n [] (by simp), rfl⟩
theorem law_lFnOrders (a : List Int) (h : a.length ≤ maxLen) : g_lFnOrders a = some (true, ()) := by
  have hm : maxLen = 9223372036854775807 := by decide
  show f_lFnOrders BIG _ = _
  rw [e_lFnOrders, h_lbig, Option.bind_some]
  by_cases ha : a.length ≤ 1048576
  case neg => rw [decide_eq_true (by omega)]; rfl
  rw [decide_eq_false (by omega), cond_false]
  obtain ⟨n, o, k1, hl1⟩ := h_sDrawOrderText a ha
  obtain ⟨m, y, k2, hl2, hl2'⟩ := h_sDrawAnswerText a ha
  obtain ⟨p, T, k3, hT⟩ := h_sDrawReadOrder a ha
  obtain ⟨q, U, k4, hU⟩ := h_sDrawReadAnswer a ha
  obtain ⟨R, hR, hI⟩ := ord_part n o (by omega)
  obtain ⟨S, hS, hJ⟩ := ans_part m y (by omega) (by omega)
  rw [k1, Option.bind_some, w_iOrderText n o (by omega), Option.bind_some, hR, Option.bind_some]
  dsimp only
  rw [hI, Option.bind_some, cond_false, k2, Option.bind_some, w_iAnswerText m y (by omega) (by omega), Option.bind_some, hS, Option.bind_some]
  dsimp only
  rw [hJ, Option.bind_some, cond_false, k3, Option.bind_some]
  dsimp only
  rw [w_iReadOrder p T (by omega), Option.bind_some, w_sReadOrder p T (by omega), Option.bind_some]
  dsimp only
  have ho : ∃ V b, g_iOrderText (p, ((roR (rdO p T)).1, (roR (rdO p T)).2.1, (roR (rdO p T)).2.2.1, (roR (rdO p T)).2.2.2.1)) = some ((BA V, b), ()) ∧ ((roR (rdO p T)).2.2.2.2 = true → V = T) := by
    cases hr : rdO p T with
    | none =>
      simp only [roR]
      rw [w_iOrderText p (0, 0, [], 0) (by simp)]
      cases ordB p (0, 0, [], 0) with
      | true => exact ⟨_, _, by rw [if_pos rfl], fun h => by cases h⟩
      | false => exact ⟨_, _, by rw [if_neg (by simp)], fun h => by cases h⟩
    | some x =>
      obtain ⟨h1, h2⟩ := rdO_some hr
      simp only [roR]
      have hxl := eOk_len (ordB_in h1).2.2.2.2.2.2.2.2
      have := w_iOrderText p x (by omega)
      rw [h1, if_pos rfl] at this
      exact ⟨_, _, this, fun _ => h2⟩
  have hA : ∃ V b, g_iAnswerText (q, ((raR (rdA q U)).1, (raR (rdA q U)).2.1, (raR (rdA q U)).2.2.1, (raR (rdA q U)).2.2.2.1)) = some ((BA V, b), ()) ∧ ((raR (rdA q U)).2.2.2.2 = true → V = U) := by
    cases hr : rdA q U with
    | none =>
      simp only [raR]
      rw [w_iAnswerText q (0, false, [], []) (by simp) (by simp)]
      cases ansB q (0, false, [], []) with
      | true => exact ⟨_, _, by rw [if_pos rfl], fun h => by cases h⟩
      | false => exact ⟨_, _, by rw [if_neg (by simp)], fun h => by cases h⟩
    | some x =>
      obtain ⟨h1, h2⟩ := rdA_some hr
      simp only [raR]
      obtain ⟨_, _, _, _, hxe, hxl, _⟩ := ansB_in h1
      have hxe := eOk_len hxe
      have := w_iAnswerText q x (by omega) (by omega)
      rw [h1, if_pos rfl] at this
      exact ⟨_, _, this, fun _ => h2⟩
  obtain ⟨V, b, hV, hVT⟩ := ho
  obtain ⟨W, b', hW, hWU⟩ := hA
  rw [hV, Option.bind_some, k4, Option.bind_some]
  dsimp only
  rw [w_iReadAnswer q U (by omega), Option.bind_some, w_sReadAnswer q U (by omega), Option.bind_some]
  dsimp only
  rw [hW, Option.bind_some]
  simp only [beq_self_eq_true, cond_true, BA_toList]
  generalize (roR (rdO p T)).2.2.2.2 = b1 at hVT
  generalize (raR (rdA q U)).2.2.2.2 = b2 at hWU
  cases b1 with
  | false =>
    cases b2 with
    | false => rfl
    | true => rw [hWU rfl]; simp
  | true =>
    rw [hVT rfl]
    cases b2 with
    | false => simp
    | true => rw [hWU rfl]; simp
end Go.Fw
