/- What the given functions come to. No conditions. -/
import Derived.Test.YtojipknoidbbgaaM0
set_option linter.unusedVariables false
set_option linter.unusedSimpArgs false
namespace Go.Fw
theorem rrLen (n : Int) (T : List UInt8) : ∀ r, rcD n T = some r → lenOk r := by
  intro r h
  unfold rcD at h
  split at h
  · cases h
    unfold rcS
    simp only
    split
    · exact ⟨by simp, by simp, by simp⟩
    · split
      · exact lenA _ _ _ _
      · split
        · exact lenO _ _ _
        · exact ⟨by simp, by simp, by simp⟩
  · cases h
theorem wr32_in (x : Int) : 0 ≤ IntKind.wrap .u32 x ∧ IntKind.wrap .u32 x ≤ 4294967295 := by
  simp only [IntKind.wrap, IntKind.bits, IntKind.signed]
  simp
  omega
theorem bl32 (op : BinOp) (a b : Int) : 0 ≤ bits op .u32 a b := (wr32_in _).1
theorem bh32 (op : BinOp) (a b : Int) : bits op .u32 a b ≤ 4294967295 := (wr32_in _).2
theorem band1 (x : Int) (h0 : 0 ≤ x) (h1 : x ≤ 4294967295) : bits .and .u32 x 1 = x % 2 := by
  obtain ⟨a, rfl⟩ : ∃ a : Nat, x = a := ⟨x.toNat, by omega⟩
  have e1 : (BitVec.ofInt 32 (a : Int)).toNat = a := by
    rw [BitVec.ofInt_natCast, BitVec.toNat_ofNat]; exact Nat.mod_eq_of_lt (by omega)
  have e2 : (BitVec.ofInt 32 (1 : Int)).toNat = 1 := by decide
  show IntKind.u32.wrap ((BitVec.ofInt 32 (a : Int) &&& BitVec.ofInt 32 (1 : Int)).toNat : Int) = _
  rw [BitVec.toNat_and, e1, e2, Nat.and_one_is_mod]
  have : IntKind.u32.wrap ((a % 2 : Nat) : Int) = ((a % 2 : Nat) : Int) := by
    simp only [IntKind.wrap, IntKind.bits, IntKind.signed]
    simp
    omega
  rw [this]; omega
theorem wr32 {x : Int} (h0 : 0 ≤ x) (h1 : x ≤ 4294967295) : IntKind.wrap .u32 x = x := by
  simp only [IntKind.wrap, IntKind.bits, IntKind.signed]
  simp
  omega
def stp (x : Int) : Int := if x % 2 = 1 then bits .xor .u32 (x / 2) 3558460437 else x / 2
theorem stp_in {x : Int} (h0 : 0 ≤ x) (h1 : x ≤ 4294967295) : 0 ≤ stp x ∧ stp x ≤ 4294967295 := by
  unfold stp
  split
  · exact ⟨bl32 _ _ _, bh32 _ _ _⟩
  · omega
def it8 : Nat → Int → Int
  | 0, v => v
  | k + 1, v => it8 k (stp v)
theorem it8_in : ∀ (k : Nat) {x : Int}, 0 ≤ x → x ≤ 4294967295 → 0 ≤ it8 k x ∧ it8 k x ≤ 4294967295
  | 0, _, h0, h1 => ⟨h0, h1⟩
  | k + 1, x, h0, h1 => it8_in k (stp_in h0 h1).1 (stp_in h0 h1).2
theorem innerL {F : (Int × Int → Option Int) → Int × Int → Option Int} (v : Int) (h0 : 0 ≤ v) (h1 : v ≤ 4294967295)
    (hF : ∀ self (x : Int) (i : Nat), 0 ≤ x → x ≤ 4294967295 → i < 8 → F self (x, (i : Int)) = self (stp x, ((i + 1 : Nat) : Int)))
    (hE : ∀ self x, F self (x, ((8 : Nat) : Int)) = some x) : loopT BIG F (v, 0) = some (it8 8 v) := by
  have L := loop_eq (F := F) (fun x => ∃ i : Nat, x.2 = (i : Int) ∧ i ≤ 8 ∧ 0 ≤ x.1 ∧ x.1 ≤ 4294967295) (fun x => 8 - x.2.toNat) (fun x => it8 (8 - x.2.toNat) x.1) (fun self x ⟨i, a1, a2, a3, a4⟩ hs => by
    obtain ⟨x, j⟩ := x
    simp only at a1 a3 a4 hs ⊢
    subst a1
    by_cases hi : i < 8
    · rw [hF self x i a3 a4 hi, hs (stp x, ((i + 1 : Nat) : Int)) ⟨i + 1, rfl, hi, (stp_in a3 a4).1, (stp_in a3 a4).2⟩ (by simp; omega)]
      simp only [Int.toNat_natCast]
      rw [show 8 - i = (8 - (i + 1)) + 1 from by omega]; rfl
    · have : i = 8 := by omega
      subst this
      rw [hE]; rfl) (n := BIG) (x := (v, 0)) (by show 8 - 0 < BIG; decide) ⟨0, rfl, by omega, h0, h1⟩
  exact L
def smS (s : Int) (b : UInt8) : Int := it8 8 (bits .xor .u32 s (b.toNat : Int))
def smT (s : Int) (T : List UInt8) : Int := T.foldl smS s
theorem w_iSumMore (s : Int) (T : List UInt8) (h0 : 0 ≤ s) (h1 : s ≤ 4294967295) (hl : T.length ≤ 2097152) : g_iSumMore (s, BA T) = some (smT s T, ()) := by
  have hm : maxLen = 9223372036854775807 := by decide
  show f_iSumMore BIG _ = _
  rw [e_iSumMore, BA_size]
  rw [foldLoop T (by omega) (fun _ (x : Int) => 0 ≤ x ∧ x ≤ 4294967295) smS id ⟨h0, h1⟩ (fun i x b _ h => it8_in 8 (bl32 _ _ _) (bh32 _ _ _))]
  · rfl
  · intro self x i b hb h
    have hi := (List.getElem?_eq_some_iff.1 hb).1
    simp only [show ((i : Int) < (T.length : Int)) from by omega, decide_true, cond_true]
    have := b.toNat_lt
    rw [bnd_nat hi, BA_get, hb, Option.bind_some, wr32 (by omega) (by omega), innerL _ (bl32 _ _ _) (bh32 _ _ _)]
    · rw [Option.bind_some, wr1 (by omega)]; rfl
    · intro self x i a0 a1 a2
      simp only [show ((i : Int) < 8) from by omega, decide_true, cond_true]
      rw [band1 x a0 a1, wr1 (by omega), show Int.fdiv x (2 ^ (Nat.min (Int.toNat (1 : Int)) (IntKind.bits .u32))) = x / 2 from by
        show Int.fdiv x (2 ^ 1) = _
        rw [Int.fdiv_eq_ediv_of_nonneg _ (by omega)]; rfl]
      unfold stp
      by_cases hx : x % 2 = 1
      · rw [decide_eq_true hx, if_pos hx]; rfl
      · rw [decide_eq_false hx, if_neg hx]; rfl
    · intro self x; rfl
  · intro self x h; simp
theorem w_sSumMore (s : Int) (T : List UInt8) (h0 : 0 ≤ s) (h1 : s ≤ 4294967295) (hl : T.length ≤ 2097152) : g_sSumMore (s, BA T) = some (smT s T, ()) := by
  have hm : maxLen = 9223372036854775807 := by decide
  show f_sSumMore BIG _ = _
  rw [e_sSumMore, BA_size]
  rw [foldLoop T (by omega) (fun _ (x : Int) => 0 ≤ x ∧ x ≤ 4294967295) smS id ⟨h0, h1⟩ (fun i x b _ h => it8_in 8 (bl32 _ _ _) (bh32 _ _ _))]
  · rfl
  · intro self x i b hb h
    have hi := (List.getElem?_eq_some_iff.1 hb).1
    simp only [show ((i : Int) < (T.length : Int)) from by omega, decide_true, cond_true]
    have := b.toNat_lt
    rw [bnd_nat hi, BA_get, hb, Option.bind_some, wr32 (by omega) (by omega), innerL _ (bl32 _ _ _) (bh32 _ _ _)]
    · rw [Option.bind_some, wr1 (by omega)]; rfl
    · intro self x i a0 a1 a2
      simp only [show ((i : Int) < 8) from by omega, decide_true, cond_true]
      rw [Int.tmod_eq_emod_of_nonneg a0, Int.tdiv_eq_ediv_of_nonneg a0, wr32 (by omega) (by omega), wr1 (by omega)]
      unfold stp
      by_cases hx : x % 2 = 1
      · rw [decide_eq_true hx, if_pos hx]; rfl
      · rw [decide_eq_false hx, if_neg hx]; rfl
    · intro self x; rfl
  · intro self x h; simp
theorem w_iSumOf (T : List UInt8) (hl : T.length ≤ 2097152) : g_iSumOf (BA T) = some (smT 4294967295 T, ()) := by
  show f_iSumOf BIG _ = _
  rw [e_iSumOf, w_iSumMore _ T (by omega) (by omega) hl]; rfl
theorem w_sSumOf (T : List UInt8) (hl : T.length ≤ 2097152) : g_sSumOf (BA T) = some (smT 4294967295 T, ()) := by
  show f_sSumOf BIG _ = _
  rw [e_sSumOf, w_sSumMore _ T (by omega) (by omega) hl]; rfl
def fourT (x : Int) : List UInt8 := [Int.fdiv x (2 ^ (Nat.min (Int.toNat (24 : Int)) (IntKind.bits .u32))), Int.fdiv x (2 ^ (Nat.min (Int.toNat (16 : Int)) (IntKind.bits .u32))), Int.fdiv x (2 ^ (Nat.min (Int.toNat (8 : Int)) (IntKind.bits .u32))), x].map by8
theorem four_eq (x : Int) : bytesStr ([IntKind.wrap .u8 (Int.fdiv x (2 ^ (Nat.min (Int.toNat (24 : Int)) (IntKind.bits .u32)))), IntKind.wrap .u8 (Int.fdiv x (2 ^ (Nat.min (Int.toNat (16 : Int)) (IntKind.bits .u32)))), IntKind.wrap .u8 (Int.fdiv x (2 ^ (Nat.min (Int.toNat (8 : Int)) (IntKind.bits .u32)))), IntKind.wrap .u8 (x)]) = BA (fourT x) := bytes_by [Int.fdiv x (2 ^ (Nat.min (Int.toNat (24 : Int)) (IntKind.bits .u32))), Int.fdiv x (2 ^ (Nat.min (Int.toNat (16 : Int)) (IntKind.bits .u32))), Int.fdiv x (2 ^ (Nat.min (Int.toNat (8 : Int)) (IntKind.bits .u32))), x]
theorem four_len (x : Int) : (fourT x).length = 4 := rfl
def frT (T : List UInt8) : Option (List UInt8) := if inB (T.length : Int) 1 9000 then some ((vB T.length ++ fourT (smT 4294967295 T)) ++ T) else none
def txR : Option (List UInt8) → ByteArray × Bool
  | some s => (BA s, true)
  | none => (BA [], false)
theorem w_iFrame (T : List UInt8) (hl : T.length ≤ 2097152) : g_iFrame (BA T) = some (txR (frT T), ()) := by
  show f_iFrame BIG _ = _
  rw [e_iFrame, BA_size, h_iin', Option.bind_some]
  unfold frT
  cases hb : inB (T.length : Int) 1 9000 with
  | false => rfl
  | true =>
    rw [inB_t] at hb
    have hv := vB_len (v := T.length) (by omega)
    simp only [Bool.not_true, cond_false, if_true]
    rw [w_iVarText, Option.bind_some, show inB (T.length : Int) 0 1000000000 = true from inB_t.2 (by omega), if_pos rfl, Int.toNat_natCast, w_iSumOf T hl, Option.bind_some]
    simp only [four_eq, BA_app, BA_size, List.length_append, four_len]
    rw [decide_eq_true (show (vB T.length).length + 4 ≤ 4611686018427387904 from by omega), decide_eq_true (show (vB T.length).length + 4 + T.length ≤ 4611686018427387904 from by omega)]
    rfl
theorem w_sFrame (T : List UInt8) (hl : T.length ≤ 2097152) : g_sFrame (BA T) = some (txR (frT T), ()) := by
  show f_sFrame BIG _ = _
  rw [e_sFrame, BA_size, h_sl01In', Option.bind_some]
  unfold frT
  cases hb : inB (T.length : Int) 1 9000 with
  | false => rfl
  | true =>
    rw [inB_t] at hb
    have hv := vB_len (v := T.length) (by omega)
    have h4 : ∀ x, g_sl02Four x = some (BA (fourT x), ()) := by
      intro x
      show f_sl02Four BIG _ = _
      rw [e_sl02Four, four_eq]; rfl
    simp only [Bool.not_true, cond_false, if_true]
    rw [w_sl01Var T.length (by omega), Option.bind_some, w_sSumOf T hl, Option.bind_some, h4, Option.bind_some]
    simp only [BA_app, BA_size, List.length_append, four_len]
    rw [decide_eq_true (show (vB T.length).length + 4 ≤ 4611686018427387904 from by omega), decide_eq_true (show (vB T.length).length + 4 + T.length ≤ 4611686018427387904 from by omega)]
    rfl
def fU (T : List UInt8) (a m v : Nat) : List UInt8 := (T.drop (a + m + 4)).take v
def fA (T : List UInt8) (a : Nat) : Option (List UInt8 × Nat) :=
  match rdV (T.drop a) with
  | none => none
  | some (v, m) => if (1 ≤ v ∧ v ≤ 9000) ∧ a + m + 4 + v ≤ T.length ∧ frT (fU T a m v) = some ((T.drop a).take (m + 4 + v)) then some (fU T a m v, a + m + 4 + v) else none
def faR : Option (List UInt8 × Nat) → ByteArray × Int × Bool
  | some (U, b) => (BA U, (b : Int), true)
  | none => (BA [], 0, false)
theorem fU_len {T : List UInt8} {a m v : Nat} (h : a + m + 4 + v ≤ T.length) : (fU T a m v).length = v := by
  unfold fU
  rw [List.length_take, List.length_drop]; omega
theorem w_iframeAt (T : List UInt8) (a : Nat) (ha : a ≤ T.length) (hl : T.length ≤ 20000) : g_iframeAt (BA T, (a : Int)) = some (faR (fA T a), ()) := by
  show f_iframeAt BIG _ = _
  rw [e_iframeAt, w_iReadVar T _ (by omega), BA_size]
  unfold rvR fA
  rw [show inB (a : Int) 0 (T.length : Int) = true from inB_t.2 (by omega), if_pos rfl, Int.toNat_natCast]
  cases hr : rdV (T.drop a) with
  | none => rfl
  | some x =>
    obtain ⟨v, m⟩ := x
    have hin := rdV_in hr
    rw [List.length_drop] at hin
    simp only [Option.bind_some, Bool.not_true, cond_false, h_iin']
    cases hv : inB (v : Int) 1 9000 with
    | false =>
      rw [if_neg]
      · rfl
      · intro h
        have : inB (v : Int) 1 9000 = true := inB_t.2 (by omega)
        rw [hv] at this; cases this
    | true =>
      rw [inB_t] at hv
      simp only [Bool.not_true, cond_false, Option.bind_some]
      rw [wr (n := (T.length : Int) - ((a : Int) + (m : Int))) (by omega) (by omega), wr (n := (4 : Int) + (v : Int)) (by omega) (by omega)]
      by_cases hc : a + m + 4 + v ≤ T.length
      · rw [decide_eq_false (by omega), cond_false]
        rw [wr (n := (a : Int) + (m : Int) + 4) (by omega) (by omega), wr (n := (a : Int) + (m : Int) + 4 + (v : Int)) (by omega) (by omega), decide_eq_true (by omega), cond_true, decide_eq_true (by omega)]
        simp only [cond_true, BA_ext]
        rw [show ((a : Int) + (m : Int) + 4 + (v : Int)).toNat = a + m + 4 + v from by omega, show ((a : Int) + (m : Int) + 4).toNat = a + m + 4 from by omega, show a + m + 4 + v - (a + m + 4) = v from by omega, show a + m + 4 + v - a = m + 4 + v from by omega]
        have hU := fU_len hc
        have hf : g_iFrame (BA (fU T a m v)) = some (txR (frT (fU T a m v)), ()) := w_iFrame _ (by omega)
        unfold fU at hf hU ⊢
        rw [hf, Option.bind_some]
        have hs : ∃ u, frT ((T.drop (a + m + 4)).take v) = some u := by
          unfold frT
          rw [hU, show inB (v : Int) 1 9000 = true from inB_t.2 (by omega)]
          exact ⟨_, rfl⟩
        obtain ⟨u, hu⟩ := hs
        rw [hu]
        simp only [txR, BA_toList]
        by_cases he : u = (T.drop a).take (m + 4 + v)
        · rw [if_pos ⟨by omega, hc, by rw [he]⟩, he]
          simp only [beq_self_eq_true, Bool.not_true, cond_false, faR]
          rw [show ((a + m + 4 + v : Nat) : Int) = (a : Int) + (m : Int) + 4 + (v : Int) from by omega]
        · have hb : (u == (T.drop a).take (m + 4 + v)) = false := beq_eq_false_iff_ne.2 he
          rw [if_neg (fun h => he (Option.some.inj h.2.2)), hb]; rfl
      · rw [decide_eq_true (by omega), if_neg (fun h => hc h.2.1)]; rfl
theorem fA_in {T : List UInt8} {a : Nat} {U : List UInt8} {b : Nat} (h : fA T a = some (U, b)) : a < b ∧ b ≤ T.length ∧ frT U = some ((T.drop a).take (b - a)) ∧ 1 ≤ U.length ∧ U.length ≤ 9000 := by
  unfold fA at h
  cases hr : rdV (T.drop a) with
  | none => rw [hr] at h; cases h
  | some x =>
    obtain ⟨v, m⟩ := x
    rw [hr] at h
    simp only at h
    split at h
    · rename_i hc
      have h := Option.some.inj h
      have h1 := congrArg Prod.fst h
      have h2 := congrArg Prod.snd h
      simp only at h1 h2
      subst h1 h2
      have := fU_len hc.2.1
      refine ⟨by omega, hc.2.1, ?_, by omega, by omega⟩
      rw [show a + m + 4 + v - a = m + 4 + v from by omega]
      exact hc.2.2
    · cases h
def ufL (T : List UInt8) : Nat → Nat → List (List UInt8) × Nat
  | 0, a => ([], a)
  | k + 1, a => match fA T a with
    | some (U, b) => (U :: (ufL T k b).1, (ufL T k b).2)
    | none => ([], a)
theorem ufL_eq (T : List UInt8) : ∀ (k k' a : Nat), T.length + 1 - a ≤ k → T.length + 1 - a ≤ k' → a ≤ T.length → ufL T k a = ufL T k' a
  | 0, _, a, h, _, ha => by omega
  | _ + 1, 0, a, _, h, ha => by omega
  | k + 1, k' + 1, a, h, h', ha => by
    unfold ufL
    cases hf : fA T a with
    | none => rfl
    | some x =>
      obtain ⟨U, b⟩ := x
      have := fA_in hf
      simp only
      rw [ufL_eq T k k' b (by omega) (by omega) this.2.1]
def uf (T : List UInt8) (a : Nat) : List (List UInt8) × Nat := ufL T (T.length + 1) a
theorem uf_none {T : List UInt8} {a : Nat} (h : fA T a = none) : uf T a = ([], a) := by
  unfold uf ufL
  rw [h]
theorem uf_some {T : List UInt8} {a b : Nat} {U : List UInt8} (h : fA T a = some (U, b)) : uf T a = (U :: (uf T b).1, (uf T b).2) := by
  have := fA_in h
  unfold uf
  rw [show ufL T (T.length + 1) a = (U :: (ufL T T.length b).1, (ufL T T.length b).2) from by
    rw [ufL, h]]
  rw [ufL_eq T T.length (T.length + 1) b (by omega) (by omega) this.2.1]
theorem uf_end {T : List UInt8} {a : Nat} (h : T.length ≤ a) : fA T a = none := by
  cases hf : fA T a with
  | none => rfl
  | some x =>
    obtain ⟨U, b⟩ := x
    have := fA_in hf
    omega
theorem w_sUnframe (T : List UInt8) (hl : T.length ≤ 20000) : g_sUnframe (BA T) = some ((((uf T 0).1.map BA, ((uf T 0).2 : Int))), ()) := by
  have hm : maxLen = 9223372036854775807 := by decide
  show f_sUnframe BIG _ = _
  rw [e_sUnframe, BA_size, decide_eq_false (by omega), cond_false]
  have L := loop_rel (B := (List ByteArray × Int) ⊕ (List ByteArray × Int)) (F := fun self1 (x0 : List ByteArray × Int) =>
    bif decide (x0.2 < (T.length : Int)) then
     Option.bind (g_sReadVar (BA T, x0.2)) fun r2 =>
     Option.bind (bif !r2.1.2.2 then
       some true
      else some (decide ((IntKind.wrap .i64 ((IntKind.wrap .i64 ((T.length : Int) - r2.1.2.1)) - (4 : Int))) < r2.1.1)) : Option (Bool)) fun x3 =>
     bif x3 then
      some (Sum.inr (x0.1, x0.2))
     else bif decide (0 ≤ (IntKind.wrap .i64 (r2.1.2.1 + (4 : Int))) ∧ (IntKind.wrap .i64 (r2.1.2.1 + (4 : Int))) ≤ (IntKind.wrap .i64 ((IntKind.wrap .i64 (r2.1.2.1 + (4 : Int))) + r2.1.1)) ∧ (IntKind.wrap .i64 ((IntKind.wrap .i64 (r2.1.2.1 + (4 : Int))) + r2.1.1)) ≤ T.length) then
      Option.bind (g_sFrame ((BA T).extract (Int.toNat (IntKind.wrap .i64 (r2.1.2.1 + (4 : Int)))) (Int.toNat (IntKind.wrap .i64 ((IntKind.wrap .i64 (r2.1.2.1 + (4 : Int))) + r2.1.1))))) fun r4 =>
      Option.bind (bif !r4.1.2 then
        some true
       else bif decide (0 ≤ x0.2 ∧ x0.2 ≤ (IntKind.wrap .i64 ((IntKind.wrap .i64 (r2.1.2.1 + (4 : Int))) + r2.1.1)) ∧ (IntKind.wrap .i64 ((IntKind.wrap .i64 (r2.1.2.1 + (4 : Int))) + r2.1.1)) ≤ T.length) then
        some (!(r4.1.1.toList == ((BA T).extract (Int.toNat x0.2) (Int.toNat (IntKind.wrap .i64 ((IntKind.wrap .i64 (r2.1.2.1 + (4 : Int))) + r2.1.1)))).toList))
       else none : Option (Bool)) fun x5 =>
      bif x5 then
       some (Sum.inr (x0.1, x0.2))
      else bif decide (x0.1.length + ([(BA T).extract (Int.toNat (IntKind.wrap .i64 (r2.1.2.1 + (4 : Int)))) (Int.toNat (IntKind.wrap .i64 ((IntKind.wrap .i64 (r2.1.2.1 + (4 : Int))) + r2.1.1)))]).length ≤ 4294967296) then
       self1 (x0.1 ++ ([(BA T).extract (Int.toNat (IntKind.wrap .i64 (r2.1.2.1 + (4 : Int)))) (Int.toNat (IntKind.wrap .i64 ((IntKind.wrap .i64 (r2.1.2.1 + (4 : Int))) + r2.1.1)))]), IntKind.wrap .i64 ((IntKind.wrap .i64 (r2.1.2.1 + (4 : Int))) + r2.1.1))
      else none
     else none
    else some (Sum.inl (x0.1, x0.2)))
    (fun x => ∃ a : Nat, x.2 = (a : Int) ∧ a ≤ T.length ∧ x.1.length ≤ a) (fun x => T.length - x.2.toNat) (fun x r => ∀ a : Nat, x.2 = (a : Int) → r = .inl (x.1 ++ (uf T a).1.map BA, ((uf T a).2 : Int)) ∨ r = .inr (x.1 ++ (uf T a).1.map BA, ((uf T a).2 : Int))) (fun self x ⟨a, a1, a2, a3⟩ hs => ?_) (n := BIG) (x := ([], 0)) (by simp [BIG]; omega) ⟨0, rfl, by omega, by simp⟩
  · obtain ⟨r, h1, h2⟩ := L
    rw [h1]
    rcases h2 0 rfl with rfl | rfl <;> simp
  · obtain ⟨out, p⟩ := x
    simp only at a1 a2 a3 hs ⊢
    subst a1
    have stop : fA T a = none → out ++ (uf T a).1.map BA = out ∧ (((uf T a).2 : Nat) : Int) = (a : Int) := fun h => by rw [uf_none h]; simp
    by_cases hlt : a < T.length
    · rw [decide_eq_true (by omega), cond_true, w_sReadVar T _ (by omega), Option.bind_some]
      unfold rvR
      rw [show inB (a : Int) 0 (T.length : Int) = true from inB_t.2 (by omega), if_pos rfl, Int.toNat_natCast]
      cases hr : rdV (T.drop a) with
      | none =>
        have hf : fA T a = none := by unfold fA; rw [hr]
        refine ⟨_, rfl, fun b hb => .inr ?_⟩
        have : a = b := by omega
        subst this
        rw [(stop hf).1, (stop hf).2]
      | some x =>
        obtain ⟨v, m⟩ := x
        have hin := rdV_in hr
        rw [List.length_drop] at hin
        simp only [Bool.not_true, cond_false, Option.bind_some]
        rw [wr (n := (T.length : Int) - ((a : Int) + (m : Int))) (by omega) (by omega), wr (n := (T.length : Int) - ((a : Int) + (m : Int)) - 4) (by omega) (by omega)]
        by_cases hc : a + m + 4 + v ≤ T.length
        · rw [decide_eq_false (by omega), cond_false]
          rw [wr (n := (a : Int) + (m : Int) + 4) (by omega) (by omega), wr (n := (a : Int) + (m : Int) + 4 + (v : Int)) (by omega) (by omega), decide_eq_true (by omega), cond_true, decide_eq_true (by omega)]
          simp only [cond_true, BA_ext]
          rw [show ((a : Int) + (m : Int) + 4 + (v : Int)).toNat = a + m + 4 + v from by omega, show ((a : Int) + (m : Int) + 4).toNat = a + m + 4 from by omega, show a + m + 4 + v - (a + m + 4) = v from by omega, show a + m + 4 + v - a = m + 4 + v from by omega]
          have hU := fU_len hc
          have hf : g_sFrame (BA (fU T a m v)) = some (txR (frT (fU T a m v)), ()) := w_sFrame _ (by omega)
          have hfA : fA T a = if (1 ≤ v ∧ v ≤ 9000) ∧ a + m + 4 + v ≤ T.length ∧ frT (fU T a m v) = some ((T.drop a).take (m + 4 + v)) then some (fU T a m v, a + m + 4 + v) else none := by unfold fA; rw [hr]
          have hfr : frT (fU T a m v) = some ((T.drop a).take (m + 4 + v)) → (1 ≤ v ∧ v ≤ 9000) := by
            intro h
            unfold frT at h
            split at h
            · rename_i hq
              rw [inB_t, hU] at hq
              omega
            · cases h
          have hD : (T.drop (a + m + 4)).take v = fU T a m v := rfl
          rw [hD, hf, Option.bind_some]
          cases hfu : frT (fU T a m v) with
          | none =>
            have hn : fA T a = none := by rw [hfA, if_neg (fun h => by rw [hfu] at h; cases h.2.2)]
            refine ⟨_, rfl, fun b hb => .inr ?_⟩
            have : a = b := by omega
            subst this
            rw [(stop hn).1, (stop hn).2]
          | some u =>
            simp only [txR, BA_toList, Bool.not_true, cond_false, Option.bind_some]
            by_cases he : u = (T.drop a).take (m + 4 + v)
            · subst he
              have hsm : fA T a = some (fU T a m v, a + m + 4 + v) := by rw [hfA, if_pos ⟨hfr hfu, hc, hfu⟩]
              simp only [beq_self_eq_true, Bool.not_true, cond_false]
              rw [decide_eq_true (show out.length + [BA (fU T a m v)].length ≤ 4294967296 from by simp only [List.length_cons, List.length_nil]; omega), cond_true]
              obtain ⟨r, r1, r2⟩ := hs (out ++ [BA (fU T a m v)], (a : Int) + (m : Int) + 4 + (v : Int)) ⟨a + m + 4 + v, by simp only; omega, hc, by simp only [List.length_append, List.length_cons, List.length_nil]; omega⟩ (by simp only; omega)
              refine ⟨r, r1, fun b hb => ?_⟩
              have : a = b := by omega
              subst this
              have := r2 (a + m + 4 + v) (by simp only; omega)
              rw [uf_some hsm]
              simpa using this
            · have hb : (u == (T.drop a).take (m + 4 + v)) = false := beq_eq_false_iff_ne.2 he
              have hn : fA T a = none := by rw [hfA, if_neg (fun h => by rw [hfu] at h; exact he (Option.some.inj h.2.2))]
              rw [hb]
              refine ⟨_, rfl, fun b hb => .inr ?_⟩
              have : a = b := by omega
              subst this
              rw [(stop hn).1, (stop hn).2]
        · have hn : fA T a = none := by
            unfold fA; rw [hr]; simp only; rw [if_neg (fun h => hc h.2.1)]
          rw [decide_eq_true (by omega)]
          refine ⟨_, rfl, fun b hb => .inr ?_⟩
          have : a = b := by omega
          subst this
          rw [(stop hn).1, (stop hn).2]
    · have hn := uf_end (T := T) (a := a) (by omega)
      rw [decide_eq_false (by omega), cond_false]
      refine ⟨_, rfl, fun b hb => .inl ?_⟩
      have : a = b := by omega
      subst this
      rw [(stop hn).1, (stop hn).2]
def frLen (U : List UInt8) : Nat := match frT U with | some u => u.length | none => 0
def rdL (n : Int) : List (List UInt8) → List Rc × Nat
  | [] => ([], 0)
  | U :: L => match rcD n U with
    | some r => (r :: (rdL n L).1, frLen U + (rdL n L).2)
    | none => ([], 0)
theorem w_iReadRecs (n : Int) (T : List UInt8) : g_iReadRecs (n, BA T) = some (if T.length ≤ 20000 then ((rdL n (uf T 0).1).1, ((rdL n (uf T 0).1).2 : Int)) else ([], 0), ()) := by
  have hm : maxLen = 9223372036854775807 := by decide
  show f_iReadRecs BIG _ = _
  rw [e_iReadRecs, BA_size]
  by_cases hl : T.length ≤ 20000
  · rw [if_pos hl, decide_eq_false (by omega), cond_false]
    refine (loop_eq (B := (List Rc × Int) × Unit) (fun (x : List Rc × Int) => ∃ a : Nat, x.2 = (a : Int) ∧ a ≤ T.length ∧ x.1.length ≤ a) (fun x => T.length - x.2.toNat) (fun x => ((x.1 ++ (rdL n (uf T x.2.toNat).1).1, x.2 + ((rdL n (uf T x.2.toNat).1).2 : Int)), ())) (fun self x ⟨a, a1, a2, a3⟩ hs => ?_) (n := BIG) (x := ([], 0)) (by simp [BIG]; omega) ⟨0, rfl, by omega, by simp⟩).trans ?_
    · obtain ⟨out, p⟩ := x
      simp only at a1 a2 a3 hs ⊢
      subst a1
      rw [w_iframeAt T a a2 hl, Option.bind_some, Int.toNat_natCast]
      cases hf : fA T a with
      | none =>
        have e : g_iReadRec (n, BA []) = some (rrR (rcD n []), ()) := w_iReadRec n [] (by simp)
        simp only [faR]
        rw [e, uf_none hf]
        simp [rdL]
      | some x =>
        obtain ⟨U, b⟩ := x
        have hin := fA_in hf
        simp only [faR]
        rw [w_iReadRec n U (by omega), uf_some hf]
        simp only [Option.bind_some, Bool.not_true, cond_false, rdL]
        cases hr : rcD n U with
        | none => simp [rrR]
        | some r =>
          have hfl : frLen U = b - a := by
            unfold frLen
            rw [hin.2.2.1]
            simp only [List.length_take, List.length_drop]; omega
          simp only [rrR, Bool.not_true, cond_false]
          rw [decide_eq_true (by simp only [List.length_cons, List.length_nil]; omega), cond_true]
          refine (hs (out ++ [r], (b : Int)) ⟨b, rfl, hin.2.1, by simp; omega⟩ (by simp only; omega)).trans ?_
          simp only [Int.toNat_natCast, hfl, List.append_assoc, List.singleton_append]
          rw [show (b : Int) + ((rdL n (uf T b).1).2 : Int) = (a : Int) + ((b - a + (rdL n (uf T b).1).2 : Nat) : Int) from by omega]
    · simp
  · rw [if_neg hl, decide_eq_true (by omega)]; rfl
theorem uf_mem (T : List UInt8) : ∀ (k a : Nat), T.length - a ≤ k → ∀ U, U ∈ (uf T a).1 → U.length ≤ 9000 ∧ frLen U ≤ 20000 ∨ 20000 < T.length
  | k, a, hk, U, hU => by
    by_cases hl : T.length ≤ 20000
    · left
      cases hf : fA T a with
      | none => rw [uf_none hf] at hU; cases hU
      | some x =>
        obtain ⟨V, b⟩ := x
        have hin := fA_in hf
        rw [uf_some hf] at hU
        rcases List.mem_cons.1 hU with rfl | hU
        · refine ⟨hin.2.2.2.2, ?_⟩
          unfold frLen
          rw [hin.2.2.1]
          simp only [List.length_take, List.length_drop]; omega
        · cases k with
          | zero => omega
          | succ k =>
            rcases uf_mem T k b (by omega) U hU with h | h
            · exact h
            · omega
    · right; omega
theorem uf_len (T : List UInt8) : ∀ (k a : Nat), T.length - a ≤ k → a ≤ T.length → (uf T a).1.length ≤ k
  | k, a, hk, ha => by
    cases hf : fA T a with
    | none => rw [uf_none hf]; simp
    | some x =>
      obtain ⟨V, b⟩ := x
      have hin := fA_in hf
      rw [uf_some hf]
      cases k with
      | zero => omega
      | succ k =>
        have := uf_len T k b (by omega) hin.2.1
        simp only [List.length_cons]; omega
theorem w_sReadRecs_of (n : Int) (T : List UInt8) (L : List (List UInt8)) (e : Int) (hU : g_sUnframe (BA T) = some ((L.map BA, e), ())) (hlen : L.length ≤ 20000) (hmem : ∀ U, U ∈ L → U.length ≤ 9000 ∧ frLen U ≤ 20000) : g_sReadRecs (n, BA T) = some (((rdL n L).1, ((rdL n L).2 : Int)), ()) := by
  have hm : maxLen = 9223372036854775807 := by decide
  show f_sReadRecs BIG _ = _
  rw [e_sReadRecs, hU, Option.bind_some]
  dsimp only
  have hL := loop_rel (B := (List Rc × Int) ⊕ (List Rc × Int)) (F := fun self2 (x1 : List Rc × Int × Int) =>
    bif decide (x1.2.2 < ((L.map BA).length : Int)) then
     bnd (L.map BA).length x1.2.2 fun n3 =>
     Option.bind (L.map BA)[n3]? fun y4 =>
     Option.bind (g_sReadRec (n, y4)) fun r5 =>
     bif !r5.1.2.2.2.2.2.2.2.2.2.2.2.2.2.2 then
      some (Sum.inr (x1.1, x1.2.1))
     else bif decide (x1.1.length + ([((r5.1.1, r5.1.2.1, r5.1.2.2.1, r5.1.2.2.2.1, r5.1.2.2.2.2.1, r5.1.2.2.2.2.2.1, r5.1.2.2.2.2.2.2.1, r5.1.2.2.2.2.2.2.2.1, r5.1.2.2.2.2.2.2.2.2.1, r5.1.2.2.2.2.2.2.2.2.2.1, r5.1.2.2.2.2.2.2.2.2.2.2.1, r5.1.2.2.2.2.2.2.2.2.2.2.2.1, r5.1.2.2.2.2.2.2.2.2.2.2.2.2.1, r5.1.2.2.2.2.2.2.2.2.2.2.2.2.2.1) : Rc)]).length ≤ 4294967296) then
      bnd (L.map BA).length x1.2.2 fun n6 =>
      Option.bind (L.map BA)[n6]? fun y7 =>
      Option.bind (g_sFrame y7) fun r8 =>
      self2 (x1.1 ++ ([((r5.1.1, r5.1.2.1, r5.1.2.2.1, r5.1.2.2.2.1, r5.1.2.2.2.2.1, r5.1.2.2.2.2.2.1, r5.1.2.2.2.2.2.2.1, r5.1.2.2.2.2.2.2.2.1, r5.1.2.2.2.2.2.2.2.2.1, r5.1.2.2.2.2.2.2.2.2.2.1, r5.1.2.2.2.2.2.2.2.2.2.2.1, r5.1.2.2.2.2.2.2.2.2.2.2.2.1, r5.1.2.2.2.2.2.2.2.2.2.2.2.2.1, r5.1.2.2.2.2.2.2.2.2.2.2.2.2.2.1) : Rc)]), IntKind.wrap .i64 (x1.2.1 + (r8.1.1.size : Int)), IntKind.wrap .i64 (x1.2.2 + (1 : Int)))
     else none
    else some (Sum.inl (x1.1, x1.2.1)))
    (fun x => ∃ i : Nat, x.2.2 = (i : Int) ∧ i ≤ L.length ∧ x.1.length ≤ i ∧ 0 ≤ x.2.1 ∧ x.2.1 ≤ 20000 * i) (fun x => L.length - x.2.2.toNat) (fun x r => ∀ i : Nat, x.2.2 = (i : Int) → r = .inl (x.1 ++ (rdL n (L.drop i)).1, x.2.1 + ((rdL n (L.drop i)).2 : Int)) ∨ r = .inr (x.1 ++ (rdL n (L.drop i)).1, x.2.1 + ((rdL n (L.drop i)).2 : Int))) (fun self x ⟨i, a1, a2, a3, a4, a5⟩ hs => ?_) (n := BIG) (x := ([], 0, 0)) (by simp [BIG]; omega) ⟨0, rfl, by omega, by simp, by simp, by simp⟩
  · obtain ⟨r, h1, h2⟩ := hL
    refine (congrArg (fun o => Option.bind o _) h1).trans ?_
    rcases h2 0 rfl with rfl | rfl <;> simp
  · obtain ⟨out, e, j⟩ := x
    simp only at a1 a2 a3 a4 a5 hs ⊢
    subst a1
    by_cases hi : i < L.length
    · have hU : L[i]? = some L[i] := List.getElem?_eq_getElem hi
      have hM : (L.map BA)[i]? = some (BA L[i]) := by rw [List.getElem?_map, hU]; rfl
      have hm1 := hmem L[i] (List.getElem_mem hi)
      have hd : L.drop i = L[i] :: L.drop (i + 1) := List.drop_eq_getElem_cons hi
      rw [decide_eq_true (by rw [List.length_map]; omega), cond_true, bnd_nat (by rw [List.length_map]; omega), hM, Option.bind_some, w_sReadRec n L[i] (by omega), Option.bind_some]
      cases hr : rcD n L[i] with
      | none =>
        refine ⟨_, rfl, fun k hk => .inr ?_⟩
        have : i = k := by omega
        subst this
        rw [hd, rdL, hr]; simp
      | some r =>
        simp only [rrR, Bool.not_true, cond_false]
        rw [decide_eq_true (by simp only [List.length_cons, List.length_nil]; omega), cond_true, bnd_nat (by rw [List.length_map]; omega), hM, Option.bind_some, w_sFrame L[i] (by omega), Option.bind_some]
        have hsz : (txR (frT L[i])).1.size = frLen L[i] := by
          unfold frLen
          cases frT L[i] <;> simp [txR, BA_size]
        simp only
        rw [hsz, wr (by omega) (by omega), wr1 (by omega)]
        obtain ⟨q, q1, q2⟩ := hs (out ++ [r], e + (frLen L[i] : Int), ((i + 1 : Nat) : Int)) ⟨i + 1, rfl, hi, by simp; omega, by simp only; omega, by simp only; omega⟩ (by simp only; omega)
        refine ⟨q, q1, fun k hk => ?_⟩
        have : i = k := by omega
        subst this
        have := q2 (i + 1) rfl
        rw [hd, rdL, hr]
        simp only [List.append_assoc, List.singleton_append] at this ⊢
        rw [show e + ((frLen L[i] + (rdL n (L.drop (i + 1))).2 : Nat) : Int) = e + (frLen L[i] : Int) + ((rdL n (L.drop (i + 1))).2 : Int) from by omega]
        exact this
    · have : i = L.length := by omega
      subst this
      rw [decide_eq_false (by rw [List.length_map]; omega), cond_false]
      refine ⟨_, rfl, fun k hk => .inl ?_⟩
      have : L.length = k := by omega
      subst this
      rw [List.drop_length, rdL]; simp
theorem w_sUnframe_long (T : List UInt8) (hl : 20000 < T.length) : g_sUnframe (BA T) = some (([], 0), ()) := by
  show f_sUnframe BIG _ = _
  rw [e_sUnframe, BA_size, decide_eq_true (by omega), cond_true]
def rdR (n : Int) (T : List UInt8) : List Rc × Int := if T.length ≤ 20000 then ((rdL n (uf T 0).1).1, ((rdL n (uf T 0).1).2 : Int)) else ([], 0)
theorem w_sReadRecs (n : Int) (T : List UInt8) : g_sReadRecs (n, BA T) = some (rdR n T, ()) := by
  unfold rdR
  by_cases hl : T.length ≤ 20000
  · rw [if_pos hl]
    have hlen := uf_len T T.length 0 (by omega) (by omega)
    refine w_sReadRecs_of n T (uf T 0).1 _ (w_sUnframe T hl) (by omega) fun U hU => ?_
    rcases uf_mem T T.length 0 (by omega) U hU with h | h
    · exact h
    · omega
  · rw [if_neg hl]
    have := w_sReadRecs_of n T [] 0 (w_sUnframe_long T (by omega)) (by simp) (fun U hU => by cases hU)
    simpa [rdL] using this
theorem z_rdL (n : Int) : ∀ L : List (List UInt8), z_RecS (rdL n L).1 ≤ 301 * L.length
  | [] => by simp [rdL, z_RecS]
  | U :: L => by
    have ih := z_rdL n L
    rw [rdL]
    cases hr : rcD n U with
    | none => simp [z_RecS]
    | some r =>
      have h := rrLen n U r hr
      unfold lenOk at h
      unfold z_RecS at ih ⊢
      simp only [List.length_cons, List.map_cons, List.sum_cons] at ih ⊢
      omega
theorem z_rdR (n : Int) (T : List UInt8) : z_RecS (rdR n T).1 ≤ 16777216 := by
  unfold rdR
  by_cases hl : T.length ≤ 20000
  · rw [if_pos hl]
    have h1 := z_rdL n (uf T 0).1
    have h2 := uf_len T T.length 0 (by omega) (by omega)
    simp only
    omega
  · rw [if_neg hl]; simp [z_RecS]
theorem law_lFnExactReadRecs (n : Int) (t : ByteArray) : g_lFnExactReadRecs (n, t) = some (true, ()) := by
  show f_lFnExactReadRecs BIG _ = _
  rw [e_lFnExactReadRecs, ← BA_data t]
  generalize t.data.toList = T
  rw [BA_size]
  by_cases hl : T.length ≤ 1048576
  case neg => rw [decide_eq_true (by omega)]; rfl
  have e1 : g_iReadRecs (n, BA T) = some (rdR n T, ()) := w_iReadRecs n T
  rw [decide_eq_false (by omega), cond_false, e1, w_sReadRecs n T]
  have hz := z_rdR n T
  generalize rdR n T = r at hz
  obtain ⟨L, e⟩ := r
  simp only at hz
  obtain ⟨t', c, m, d, l, u⟩ := mh_RecS L 1 (by omega) (by omega) hz
  simp only [Option.bind_some, eq_RecS L (by omega), Bool.not_true, cond_false, beq_self_eq_true, m, d, neg_f l, decide_true]
end Go.Fw
