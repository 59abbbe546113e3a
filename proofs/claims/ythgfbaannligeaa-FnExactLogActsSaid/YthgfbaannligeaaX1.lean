/- The given functions, as what they compute; each is shown to be what the code does. No conditions. -/
import Derived.Test.YthgfbaannligeaaX0
set_option linter.unusedVariables false
set_option linter.unusedSimpArgs false
namespace Go.Fw
/- laws.markText -/
def c_lmarkText : TC :=
 (.seq (.rg [o1 2 (.lit [.s] [.string ⟨#[]⟩])])
 (.seq (.seq (.rg [o1 4 (.copy 0),
   o1 5 (.data (.bin .leq) [.t 4, .c (.int .i64 (0))])])
 (.cond (.t 5)
  (.seq (.rg [o1 2 (.lit [.s] [.string ⟨#[109, 48]⟩])])
  .ret)
  .skip))
 (.seq (.rg [o1 3 (.lit [.s] [.string ⟨#[]⟩])])
 (.seq (.join [⟨3, [.s], false⟩] 262089 none (.block 0 (.loop [⟨3, [.s], false⟩, ⟨0, [.i .i64], false⟩] 262089
  (.seq (.seq (.rg [o1 6 (.copy 0),
    o1 7 (.data (.bin .gtr) [.t 6, .c (.int .i64 (0))])])
  (.cond (.t 7)
   .skip
   (.exit 0)))
  (.block 1 (.seq (.rg [o1 8 (.copy 0),
    o1 9 (.data (.bin .rem) [.t 8, .c (.int .i64 (10))]),
    o1 10 (.data (.bin .add) [.c (.int .i64 (48)), .t 9]),
    o1 11 (.data (.conv .u8) [.t 10]),
    o1 12 (.sli [.i .u8] [.t 11]),
    o1 13 (.bytes 12),
    o1 14 (.copy 3),
    o1 15 (.data (.bin .add) [.t 13, .t 14]),
    o1 3 (.copy 15)])
  (.rg [o1 16 (.copy 0),
    o1 17 (.data (.bin .quo) [.t 16, .c (.int .i64 (10))]),
    o1 0 (.copy 17)])))))))
 (.seq (.rg [o1 18 (.copy 3),
   o1 19 (.data (.bin .add) [.c (.string ⟨#[109]⟩), .t 18]),
   o1 2 (.copy 19)])
 .ret)))))
def s_lmarkText : Sig := ⟨[.rd false [.d]], (.one false [.d])⟩
noncomputable def E_lmarkText : TEnv := envOf []
noncomputable def f_lmarkText (n : Nat) : Int → Option ((ByteArray) × Unit) := runFn n E_lmarkText c_lmarkText [[.i .i64]] [.s] [] [2] .no
noncomputable def g_lmarkText := f_lmarkText BIG
noncomputable def p_lmarkText : TSp := ⟨s_lmarkText, [[.i .i64]], [.s], [], Ou.j .no, g_lmarkText⟩
theorem k_lmarkText : chkW PG E_lmarkText 288 s_lmarkText (c_lmarkText.ht 20) .no = some (c_lmarkText.wc E_lmarkText, [2]) := by kernel_rfl
theorem ok_lmarkText : p_lmarkText.Ok PG 288 := mkOk (env_nil PG) k_lmarkText (by kernel_rfl)
theorem e_lmarkText (n : Nat) (a0 : Int) : f_lmarkText n a0 =
  bif decide (a0 ≤ (0 : Int)) then
   some ((ByteArray.mk #[109, 48]), ())
  else Option.bind (loopT n (X := ByteArray × Int) (B := ByteArray) (fun self1 x0 =>
    bif decide ((0 : Int) < x0.2) then
     bif decide ((10 : Int) = 0) then
      none
     else bif decide ((bytesStr ([IntKind.wrap .u8 (IntKind.wrap .i64 ((48 : Int) + (Int.tmod x0.2 (10 : Int))))])).size + x0.1.size ≤ 4611686018427387904) then
      bif decide ((10 : Int) = 0) then
       none
      else self1 ((bytesStr ([IntKind.wrap .u8 (IntKind.wrap .i64 ((48 : Int) + (Int.tmod x0.2 (10 : Int))))])) ++ x0.1, IntKind.wrap .i64 (Int.tdiv x0.2 (10 : Int)))
     else none
    else some x0.1) ((ByteArray.mk #[]), a0) : Option (ByteArray)) fun x2 =>
  bif decide ((ByteArray.mk #[109]).size + x2.size ≤ 4611686018427387904) then
   some ((ByteArray.mk #[109]) ++ x2, ())
  else none := by kernel_rfl
/- laws.markFileS -/
def c_lmarkFileS : TC :=
 (.seq (.rg [o1 4 (.lit [.i .i64] [.int .i64 (0)])])
 (.seq (.join [⟨0, [.sl [.s, .s, .i .i64]], false⟩, ⟨1, [.i .i64], false⟩] 34359738339 none (.seq (.rg [o1 5 (.lit [.i .i64] [.int .i64 (0)])])
 (.block 0 (.loop [⟨0, [.sl [.s, .s, .i .i64]], false⟩, ⟨1, [.i .i64], false⟩, ⟨5, [.i .i64], false⟩] 34359738339
  (.seq (.seq (.rg [o1 6 (.copy 5),
    ⟨true, [], [], .det 1 (.copy 0), [7], (some 7), none⟩,
    o1 8 (.len 7),
    o1 9 (.data (.bin .lss) [.t 6, .t 8])])
  (.cond (.t 9)
   .skip
   (.exit 0)))
  (.seq (.block 1 (.seq (.rg [⟨true, [], [], .det 1 (.copy 0), [12], (some 12), none⟩,
    o1 13 (.copy 5),
    o1 14 (.copy 1),
    o3 15 288 [.t 14],
    o1 16 (.index 12 (.t 13)),
    o1 17 (.idx (.t 16)),
    o4 1 [0, 7, 12] (.store 0 [(0, 3)] 0 (.t 17) (.t 15))])
  (.seq (.rg [o1 18 (.copy 1),
    o1 19 (.data (.bin .add) [.t 18, .c (.int .i64 (1))]),
    o1 1 (.copy 19)])
  (.seq (.rg [⟨true, [], [], .det 1 (.copy 0), [20], (some 20), none⟩,
    o1 21 (.copy 5),
    o1 22 (.copy 1),
    o3 23 288 [.t 22],
    o1 24 (.index 20 (.t 21)),
    o1 25 (.idx (.t 24)),
    o4 1 [0, 20] (.store 0 [(0, 3)] 1 (.t 25) (.t 23))])
  (.seq (.rg [o1 26 (.copy 1),
    o1 27 (.data (.bin .add) [.t 26, .c (.int .i64 (1))]),
    o1 1 (.copy 27)])
  (.seq (.rg [⟨true, [], [], .det 1 (.copy 0), [28], (some 28), none⟩,
    o1 29 (.copy 5),
    o1 30 (.copy 1),
    o1 31 (.index 28 (.t 29)),
    o1 32 (.idx (.t 31)),
    o4 1 [0, 28] (.store 0 [(0, 3)] 2 (.t 32) (.t 30))])
  (.rg [o1 33 (.copy 1),
    o1 34 (.data (.bin .add) [.t 33, .c (.int .i64 (1))]),
    o1 1 (.copy 34)])))))))
  (.rg [o1 10 (.copy 5),
    o1 11 (.data (.bin .add) [.t 10, .c (.int .i64 (1))]),
    o1 5 (.copy 11)])))))))
 (.seq (.rg [o1 35 (.copy 1),
   o1 4 (.copy 35)])
 .ret)))
def s_lmarkFileS : Sig := ⟨[.mt false [.sl (.own none) [.d, .d, .d]], .rd false [.d]], (.one false [.d])⟩
noncomputable def E_lmarkFileS : TEnv := envOf [(288, p_lmarkText)]
noncomputable def f_lmarkFileS (n : Nat) : (List (ByteArray × ByteArray × Int)) × Int → Option ((Int) × List (ByteArray × ByteArray × Int)) := runFn n E_lmarkFileS c_lmarkFileS [[.sl [.s, .s, .i .i64]], [.i .i64]] [.i .i64] [.sl [.s, .s, .i .i64]] [4] (.mt 0 0 0)
noncomputable def g_lmarkFileS := f_lmarkFileS BIG
noncomputable def p_lmarkFileS : TSp := ⟨s_lmarkFileS, [[.sl [.s, .s, .i .i64]], [.i .i64]], [.i .i64], [.sl [.s, .s, .i .i64]], Ou.j (.mt 0 0 0), g_lmarkFileS⟩
theorem k_lmarkFileS : chkW PG E_lmarkFileS 287 s_lmarkFileS (c_lmarkFileS.ht 36) (.mt 0 0 0) = some (c_lmarkFileS.wc E_lmarkFileS, [4]) := by kernel_rfl
theorem ok_lmarkFileS : p_lmarkFileS.Ok PG 287 := mkOk (env_cons ok_lmarkText (env_nil PG)) k_lmarkFileS (by kernel_rfl)
theorem e_lmarkFileS (n : Nat) (a0 : List (ByteArray × ByteArray × Int)) (a1 : Int) : f_lmarkFileS n (a0, a1) =
  Option.bind (loopT n (X := (List (ByteArray × ByteArray × Int)) × Int × Int) (B := (List (ByteArray × ByteArray × Int)) × Int) (fun self1 x0 =>
    bif decide (x0.2.2 < (x0.1.length : Int)) then
     Option.bind (g_lmarkText x0.2.1) fun r2 =>
     bnd x0.1.length x0.2.2 fun n3 =>
     Option.bind x0.1[n3]? fun y4 =>
     Option.bind (g_lmarkText (IntKind.wrap .i64 (x0.2.1 + (1 : Int)))) fun r5 =>
     bnd (x0.1.set n3 (r2.1, y4.2)).length x0.2.2 fun n6 =>
     Option.bind (x0.1.set n3 (r2.1, y4.2))[n6]? fun y7 =>
     bnd ((x0.1.set n3 (r2.1, y4.2)).set n6 (y7.1, r5.1, y7.2.2)).length x0.2.2 fun n8 =>
     Option.bind ((x0.1.set n3 (r2.1, y4.2)).set n6 (y7.1, r5.1, y7.2.2))[n8]? fun y9 =>
     self1 (((x0.1.set n3 (r2.1, y4.2)).set n6 (y7.1, r5.1, y7.2.2)).set n8 (y9.1, y9.2.1, IntKind.wrap .i64 ((IntKind.wrap .i64 (x0.2.1 + (1 : Int))) + (1 : Int))), IntKind.wrap .i64 ((IntKind.wrap .i64 ((IntKind.wrap .i64 (x0.2.1 + (1 : Int))) + (1 : Int))) + (1 : Int)), IntKind.wrap .i64 (x0.2.2 + (1 : Int)))
    else some (x0.1, x0.2.1)) (a0, a1, (0 : Int)) : Option ((List (ByteArray × ByteArray × Int)) × Int)) fun x10 =>
  some (x10.2, x10.1) := by kernel_rfl
/- laws.markDisk -/
def c_lmarkDisk : TC :=
 (.seq (.rg [⟨false, [], [], .det 2 (.a (.t 0)), [2, 0], (some 2), none⟩,
   o1 4 (.lit [.i .i64] [.int .i64 (0)])])
 (.seq (.rg [o1 5 (.idx .nil),
   o1 6 (.load 2 [] 0 (.t 5) 1 true),
   o1 7 (.copy 1),
   ⟨false, [], [], .call 2 287 [.t 6, .t 7] (.mt 2 [] 0 6 0), [8, 2, 6], (some 8), none⟩,
   o1 1 (.copy 8)])
 (.seq (.rg [o1 9 (.copy 1),
   o1 4 (.copy 9)])
 .ret)))
def s_lmarkDisk : Sig := ⟨[.mt true [.sl (.own none) [.d, .d, .d]], .rd false [.d]], (.one false [.d])⟩
noncomputable def E_lmarkDisk : TEnv := envOf [(287, p_lmarkFileS)]
noncomputable def f_lmarkDisk (n : Nat) : (List (ByteArray × ByteArray × Int)) × Int → Option ((Int) × List (ByteArray × ByteArray × Int)) := runFn n E_lmarkDisk c_lmarkDisk [[.sl [.s, .s, .i .i64]], [.i .i64]] [.i .i64] [.sl [.s, .s, .i .i64]] [4] (.mt 0 2 0)
noncomputable def g_lmarkDisk := f_lmarkDisk BIG
noncomputable def p_lmarkDisk : TSp := ⟨s_lmarkDisk, [[.sl [.s, .s, .i .i64]], [.i .i64]], [.i .i64], [.sl [.s, .s, .i .i64]], Ou.j (.mt 0 2 0), g_lmarkDisk⟩
theorem k_lmarkDisk : chkW PG E_lmarkDisk 148 s_lmarkDisk (c_lmarkDisk.ht 10) (.mt 0 2 0) = some (c_lmarkDisk.wc E_lmarkDisk, [4]) := by kernel_rfl
theorem ok_lmarkDisk : p_lmarkDisk.Ok PG 148 := mkOk (env_cons ok_lmarkFileS (env_nil PG)) k_lmarkDisk (by kernel_rfl)
theorem e_lmarkDisk (n : Nat) (a0 : List (ByteArray × ByteArray × Int)) (a1 : Int) : f_lmarkDisk n (a0, a1) =
  Option.bind (g_lmarkFileS (a0, a1)) fun r0 =>
  some (r0.1, r0.2) := by kernel_rfl
/- laws.markEdgeS -/
def c_lmarkEdgeS : TC :=
 (.seq (.rg [o1 4 (.lit [.i .i64] [.int .i64 (0)])])
 (.seq (.join [⟨0, [.sl [.i .i64, .i .i64]], false⟩, ⟨1, [.i .i64], false⟩] 67108835 none (.seq (.rg [o1 5 (.lit [.i .i64] [.int .i64 (0)])])
 (.block 0 (.loop [⟨0, [.sl [.i .i64, .i .i64]], false⟩, ⟨1, [.i .i64], false⟩, ⟨5, [.i .i64], false⟩] 67108835
  (.seq (.seq (.rg [o1 6 (.copy 5),
    ⟨true, [], [], .det 1 (.copy 0), [7], (some 7), none⟩,
    o1 8 (.len 7),
    o1 9 (.data (.bin .lss) [.t 6, .t 8])])
  (.cond (.t 9)
   .skip
   (.exit 0)))
  (.seq (.block 1 (.seq (.rg [⟨true, [], [], .det 1 (.copy 0), [12], (some 12), none⟩,
    o1 13 (.copy 5),
    o1 14 (.copy 1),
    o1 15 (.index 12 (.t 13)),
    o1 16 (.idx (.t 15)),
    o4 1 [0, 7, 12] (.store 0 [(0, 2)] 0 (.t 16) (.t 14))])
  (.seq (.rg [o1 17 (.copy 1),
    o1 18 (.data (.bin .add) [.t 17, .c (.int .i64 (1))]),
    o1 1 (.copy 18)])
  (.seq (.rg [⟨true, [], [], .det 1 (.copy 0), [19], (some 19), none⟩,
    o1 20 (.copy 5),
    o1 21 (.copy 1),
    o1 22 (.index 19 (.t 20)),
    o1 23 (.idx (.t 22)),
    o4 1 [0, 19] (.store 0 [(0, 2)] 1 (.t 23) (.t 21))])
  (.rg [o1 24 (.copy 1),
    o1 25 (.data (.bin .add) [.t 24, .c (.int .i64 (1))]),
    o1 1 (.copy 25)])))))
  (.rg [o1 10 (.copy 5),
    o1 11 (.data (.bin .add) [.t 10, .c (.int .i64 (1))]),
    o1 5 (.copy 11)])))))))
 (.seq (.rg [o1 26 (.copy 1),
   o1 4 (.copy 26)])
 .ret)))
def s_lmarkEdgeS : Sig := ⟨[.mt false [.sl (.own none) [.d, .d]], .rd false [.d]], (.one false [.d])⟩
noncomputable def E_lmarkEdgeS : TEnv := envOf []
noncomputable def f_lmarkEdgeS (n : Nat) : (List (Int × Int)) × Int → Option ((Int) × List (Int × Int)) := runFn n E_lmarkEdgeS c_lmarkEdgeS [[.sl [.i .i64, .i .i64]], [.i .i64]] [.i .i64] [.sl [.i .i64, .i .i64]] [4] (.mt 0 0 0)
noncomputable def g_lmarkEdgeS := f_lmarkEdgeS BIG
noncomputable def p_lmarkEdgeS : TSp := ⟨s_lmarkEdgeS, [[.sl [.i .i64, .i .i64]], [.i .i64]], [.i .i64], [.sl [.i .i64, .i .i64]], Ou.j (.mt 0 0 0), g_lmarkEdgeS⟩
theorem k_lmarkEdgeS : chkW PG E_lmarkEdgeS 43 s_lmarkEdgeS (c_lmarkEdgeS.ht 27) (.mt 0 0 0) = some (c_lmarkEdgeS.wc E_lmarkEdgeS, [4]) := by kernel_rfl
theorem ok_lmarkEdgeS : p_lmarkEdgeS.Ok PG 43 := mkOk (env_nil PG) k_lmarkEdgeS (by kernel_rfl)
theorem e_lmarkEdgeS (n : Nat) (a0 : List (Int × Int)) (a1 : Int) : f_lmarkEdgeS n (a0, a1) =
  Option.bind (loopT n (X := (List (Int × Int)) × Int × Int) (B := (List (Int × Int)) × Int) (fun self1 x0 =>
    bif decide (x0.2.2 < (x0.1.length : Int)) then
     bnd x0.1.length x0.2.2 fun n2 =>
     Option.bind x0.1[n2]? fun y3 =>
     bnd (x0.1.set n2 (x0.2.1, y3.2)).length x0.2.2 fun n4 =>
     Option.bind (x0.1.set n2 (x0.2.1, y3.2))[n4]? fun y5 =>
     self1 ((x0.1.set n2 (x0.2.1, y3.2)).set n4 (y5.1, IntKind.wrap .i64 (x0.2.1 + (1 : Int))), IntKind.wrap .i64 ((IntKind.wrap .i64 (x0.2.1 + (1 : Int))) + (1 : Int)), IntKind.wrap .i64 (x0.2.2 + (1 : Int)))
    else some (x0.1, x0.2.1)) (a0, a1, (0 : Int)) : Option ((List (Int × Int)) × Int)) fun x6 =>
  some (x6.2, x6.1) := by kernel_rfl
/- laws.markIntS -/
def c_lmarkIntS : TC :=
 (.seq (.rg [o1 4 (.lit [.i .i64] [.int .i64 (0)])])
 (.seq (.join [⟨0, [.sl [.i .i64]], false⟩, ⟨1, [.i .i64], false⟩] 262115 none (.seq (.rg [o1 5 (.lit [.i .i64] [.int .i64 (0)])])
 (.block 0 (.loop [⟨0, [.sl [.i .i64]], false⟩, ⟨1, [.i .i64], false⟩, ⟨5, [.i .i64], false⟩] 262115
  (.seq (.seq (.rg [o1 6 (.copy 5),
    ⟨true, [], [], .det 1 (.copy 0), [7], (some 7), none⟩,
    o1 8 (.len 7),
    o1 9 (.data (.bin .lss) [.t 6, .t 8])])
  (.cond (.t 9)
   .skip
   (.exit 0)))
  (.seq (.block 1 (.seq (.rg [⟨true, [], [], .det 1 (.copy 0), [12], (some 12), none⟩,
    o1 13 (.copy 5),
    o1 14 (.copy 1),
    o1 15 (.index 12 (.t 13)),
    o4 1 [0, 7, 12] (.store 0 [(0, 1)] 0 (.t 15) (.t 14))])
  (.rg [o1 16 (.copy 1),
    o1 17 (.data (.bin .add) [.t 16, .c (.int .i64 (1))]),
    o1 1 (.copy 17)])))
  (.rg [o1 10 (.copy 5),
    o1 11 (.data (.bin .add) [.t 10, .c (.int .i64 (1))]),
    o1 5 (.copy 11)])))))))
 (.seq (.rg [o1 18 (.copy 1),
   o1 4 (.copy 18)])
 .ret)))
def s_lmarkIntS : Sig := ⟨[.mt false [.sl (.own none) [.d]], .rd false [.d]], (.one false [.d])⟩
noncomputable def E_lmarkIntS : TEnv := envOf []
noncomputable def f_lmarkIntS (n : Nat) : List (Int) × Int → Option ((Int) × List (Int)) := runFn n E_lmarkIntS c_lmarkIntS [[.sl [.i .i64]], [.i .i64]] [.i .i64] [.sl [.i .i64]] [4] (.mt 0 0 0)
noncomputable def g_lmarkIntS := f_lmarkIntS BIG
noncomputable def p_lmarkIntS : TSp := ⟨s_lmarkIntS, [[.sl [.i .i64]], [.i .i64]], [.i .i64], [.sl [.i .i64]], Ou.j (.mt 0 0 0), g_lmarkIntS⟩
theorem k_lmarkIntS : chkW PG E_lmarkIntS 44 s_lmarkIntS (c_lmarkIntS.ht 19) (.mt 0 0 0) = some (c_lmarkIntS.wc E_lmarkIntS, [4]) := by kernel_rfl
theorem ok_lmarkIntS : p_lmarkIntS.Ok PG 44 := mkOk (env_nil PG) k_lmarkIntS (by kernel_rfl)
theorem e_lmarkIntS (n : Nat) (a0 : List (Int)) (a1 : Int) : f_lmarkIntS n (a0, a1) =
  Option.bind (loopT n (X := (List (Int)) × Int × Int) (B := (List (Int)) × Int) (fun self1 x0 =>
    bif decide (x0.2.2 < (x0.1.length : Int)) then
     bnd x0.1.length x0.2.2 fun n2 =>
     Option.bind x0.1[n2]? fun y3 =>
     self1 (x0.1.set n2 x0.2.1, IntKind.wrap .i64 (x0.2.1 + (1 : Int)), IntKind.wrap .i64 (x0.2.2 + (1 : Int)))
    else some (x0.1, x0.2.1)) (a0, a1, (0 : Int)) : Option ((List (Int)) × Int)) fun x4 =>
  some (x4.2, x4.1) := by kernel_rfl
/- laws.markAnswer -/
def c_lmarkAnswer : TC :=
 (.seq (.rg [⟨false, [], [], .det 2 (.a (.t 0)), [2, 0], (some 2), none⟩,
   o1 4 (.lit [.i .i64] [.int .i64 (0)])])
 (.seq (.rg [o1 5 (.idx .nil),
   o1 6 (.load 2 [] 2 (.t 5) 1 true),
   o1 7 (.copy 1),
   ⟨false, [], [], .call 2 43 [.t 6, .t 7] (.mt 2 [] 2 6 0), [8, 2, 6], (some 8), none⟩,
   o1 1 (.copy 8)])
 (.seq (.rg [o1 9 (.idx .nil),
   o1 10 (.load 2 [] 3 (.t 9) 1 true),
   o1 11 (.copy 1),
   ⟨false, [], [], .call 2 44 [.t 10, .t 11] (.mt 2 [] 3 10 0), [12, 2, 10], (some 12), none⟩,
   o1 1 (.copy 12)])
 (.seq (.rg [o1 13 (.copy 1),
   o1 4 (.copy 13)])
 .ret))))
def s_lmarkAnswer : Sig := ⟨[.mt true [.d, .d, .sl (.own none) [.d, .d], .sl (.own none) [.d]], .rd false [.d]], (.one false [.d])⟩
noncomputable def E_lmarkAnswer : TEnv := envOf [(43, p_lmarkEdgeS), (44, p_lmarkIntS)]
noncomputable def f_lmarkAnswer (n : Nat) : (Int × Bool × List (Int × Int) × List (Int)) × Int → Option ((Int) × Int × Bool × List (Int × Int) × List (Int)) := runFn n E_lmarkAnswer c_lmarkAnswer [[.i .i64, .b, .sl [.i .i64, .i .i64], .sl [.i .i64]], [.i .i64]] [.i .i64] [.i .i64, .b, .sl [.i .i64, .i .i64], .sl [.i .i64]] [4] (.mt 0 2 0)
noncomputable def g_lmarkAnswer := f_lmarkAnswer BIG
noncomputable def p_lmarkAnswer : TSp := ⟨s_lmarkAnswer, [[.i .i64, .b, .sl [.i .i64, .i .i64], .sl [.i .i64]], [.i .i64]], [.i .i64], [.i .i64, .b, .sl [.i .i64, .i .i64], .sl [.i .i64]], Ou.j (.mt 0 2 0), g_lmarkAnswer⟩
theorem k_lmarkAnswer : chkW PG E_lmarkAnswer 74 s_lmarkAnswer (c_lmarkAnswer.ht 14) (.mt 0 2 0) = some (c_lmarkAnswer.wc E_lmarkAnswer, [4]) := by kernel_rfl
theorem ok_lmarkAnswer : p_lmarkAnswer.Ok PG 74 := mkOk (env_cons ok_lmarkEdgeS (env_cons ok_lmarkIntS (env_nil PG))) k_lmarkAnswer (by kernel_rfl)
theorem e_lmarkAnswer (n : Nat) (a0 : Int × Bool × List (Int × Int) × List (Int)) (a1 : Int) : f_lmarkAnswer n (a0, a1) =
  Option.bind (g_lmarkEdgeS (a0.2.2.1, a1)) fun r0 =>
  Option.bind (g_lmarkIntS (a0.2.2.2, r0.1)) fun r1 =>
  some (r1.1, (a0.1, a0.2.1, r0.2, r1.2)) := by kernel_rfl
/- laws.markOrder -/
def c_lmarkOrder : TC :=
 (.seq (.rg [⟨false, [], [], .det 2 (.a (.t 0)), [2, 0], (some 2), none⟩,
   o1 4 (.lit [.i .i64] [.int .i64 (0)])])
 (.seq (.rg [o1 5 (.idx .nil),
   o1 6 (.load 2 [] 2 (.t 5) 1 true),
   o1 7 (.copy 1),
   ⟨false, [], [], .call 2 43 [.t 6, .t 7] (.mt 2 [] 2 6 0), [8, 2, 6], (some 8), none⟩,
   o1 1 (.copy 8)])
 (.seq (.rg [o1 9 (.copy 1),
   o1 4 (.copy 9)])
 .ret)))
def s_lmarkOrder : Sig := ⟨[.mt true [.d, .d, .sl (.own none) [.d, .d], .d], .rd false [.d]], (.one false [.d])⟩
noncomputable def E_lmarkOrder : TEnv := envOf [(43, p_lmarkEdgeS)]
noncomputable def f_lmarkOrder (n : Nat) : (Int × Int × List (Int × Int) × Int) × Int → Option ((Int) × Int × Int × List (Int × Int) × Int) := runFn n E_lmarkOrder c_lmarkOrder [[.i .i64, .i .i64, .sl [.i .i64, .i .i64], .i .i64], [.i .i64]] [.i .i64] [.i .i64, .i .i64, .sl [.i .i64, .i .i64], .i .i64] [4] (.mt 0 2 0)
noncomputable def g_lmarkOrder := f_lmarkOrder BIG
noncomputable def p_lmarkOrder : TSp := ⟨s_lmarkOrder, [[.i .i64, .i .i64, .sl [.i .i64, .i .i64], .i .i64], [.i .i64]], [.i .i64], [.i .i64, .i .i64, .sl [.i .i64, .i .i64], .i .i64], Ou.j (.mt 0 2 0), g_lmarkOrder⟩
theorem k_lmarkOrder : chkW PG E_lmarkOrder 58 s_lmarkOrder (c_lmarkOrder.ht 10) (.mt 0 2 0) = some (c_lmarkOrder.wc E_lmarkOrder, [4]) := by kernel_rfl
theorem ok_lmarkOrder : p_lmarkOrder.Ok PG 58 := mkOk (env_cons ok_lmarkEdgeS (env_nil PG)) k_lmarkOrder (by kernel_rfl)
theorem e_lmarkOrder (n : Nat) (a0 : Int × Int × List (Int × Int) × Int) (a1 : Int) : f_lmarkOrder n (a0, a1) =
  Option.bind (g_lmarkEdgeS (a0.2.2.1, a1)) fun r0 =>
  some (r0.1, (a0.1, a0.2.1, r0.2, a0.2.2.2)) := by kernel_rfl
/- laws.markRec -/
def c_lmarkRec : TC :=
 (.seq (.rg [⟨false, [], [], .det 2 (.a (.t 0)), [2, 0], (some 2), none⟩,
   o1 4 (.lit [.i .i64] [.int .i64 (0)])])
 (.seq (.rg [o1 5 (.idx .nil),
   o1 6 (.load 2 [] 6 (.t 5) 4 true),
   o1 7 (.copy 1),
   ⟨false, [], [], .call 2 74 [.t 6, .t 7] (.mt 2 [] 6 6 0), [8, 2, 6], (some 8), none⟩,
   o1 1 (.copy 8)])
 (.seq (.rg [o1 9 (.idx .nil),
   o1 10 (.load 2 [] 10 (.t 9) 4 true),
   o1 11 (.copy 1),
   ⟨false, [], [], .call 2 58 [.t 10, .t 11] (.mt 2 [] 10 10 0), [12, 2, 10], (some 12), none⟩,
   o1 1 (.copy 12)])
 (.seq (.rg [o1 13 (.copy 1),
   o1 4 (.copy 13)])
 .ret))))
def s_lmarkRec : Sig := ⟨[.mt true [.d, .d, .d, .d, .d, .d, .d, .d, .sl (.own none) [.d, .d], .sl (.own none) [.d], .d, .d, .sl (.own none) [.d, .d], .d], .rd false [.d]], (.one false [.d])⟩
noncomputable def E_lmarkRec : TEnv := envOf [(74, p_lmarkAnswer), (58, p_lmarkOrder)]
noncomputable def f_lmarkRec (n : Nat) : (Int × Int × Int × Int × Int × Int × Int × Bool × List (Int × Int) × List (Int) × Int × Int × List (Int × Int) × Int) × Int → Option ((Int) × Int × Int × Int × Int × Int × Int × Int × Bool × List (Int × Int) × List (Int) × Int × Int × List (Int × Int) × Int) := runFn n E_lmarkRec c_lmarkRec [[.i .i64, .i .i64, .i .i64, .i .i64, .i .i64, .i .i64, .i .i64, .b, .sl [.i .i64, .i .i64], .sl [.i .i64], .i .i64, .i .i64, .sl [.i .i64, .i .i64], .i .i64], [.i .i64]] [.i .i64] [.i .i64, .i .i64, .i .i64, .i .i64, .i .i64, .i .i64, .i .i64, .b, .sl [.i .i64, .i .i64], .sl [.i .i64], .i .i64, .i .i64, .sl [.i .i64, .i .i64], .i .i64] [4] (.mt 0 2 0)
noncomputable def g_lmarkRec := f_lmarkRec BIG
noncomputable def p_lmarkRec : TSp := ⟨s_lmarkRec, [[.i .i64, .i .i64, .i .i64, .i .i64, .i .i64, .i .i64, .i .i64, .b, .sl [.i .i64, .i .i64], .sl [.i .i64], .i .i64, .i .i64, .sl [.i .i64, .i .i64], .i .i64], [.i .i64]], [.i .i64], [.i .i64, .i .i64, .i .i64, .i .i64, .i .i64, .i .i64, .i .i64, .b, .sl [.i .i64, .i .i64], .sl [.i .i64], .i .i64, .i .i64, .sl [.i .i64, .i .i64], .i .i64], Ou.j (.mt 0 2 0), g_lmarkRec⟩
theorem k_lmarkRec : chkW PG E_lmarkRec 128 s_lmarkRec (c_lmarkRec.ht 14) (.mt 0 2 0) = some (c_lmarkRec.wc E_lmarkRec, [4]) := by kernel_rfl
theorem ok_lmarkRec : p_lmarkRec.Ok PG 128 := mkOk (env_cons ok_lmarkAnswer (env_cons ok_lmarkOrder (env_nil PG))) k_lmarkRec (by kernel_rfl)
theorem e_lmarkRec (n : Nat) (a0 : Int × Int × Int × Int × Int × Int × Int × Bool × List (Int × Int) × List (Int) × Int × Int × List (Int × Int) × Int) (a1 : Int) : f_lmarkRec n (a0, a1) =
  Option.bind (g_lmarkAnswer ((a0.2.2.2.2.2.2.1, a0.2.2.2.2.2.2.2.1, a0.2.2.2.2.2.2.2.2.1, a0.2.2.2.2.2.2.2.2.2.1), a1)) fun r0 =>
  Option.bind (g_lmarkOrder (a0.2.2.2.2.2.2.2.2.2.2, r0.1)) fun r1 =>
  some (r1.1, (a0.1, a0.2.1, a0.2.2.1, a0.2.2.2.1, a0.2.2.2.2.1, a0.2.2.2.2.2.1, a0.2.2.2.2.2.2.1, a0.2.2.2.2.2.2.2.1, r0.2.2.2.1, r0.2.2.2.2, a0.2.2.2.2.2.2.2.2.2.2.1, a0.2.2.2.2.2.2.2.2.2.2.2.1, r1.2.2.2.1, a0.2.2.2.2.2.2.2.2.2.2.2.2.2)) := by kernel_rfl
/- laws.markActS -/
def c_lmarkActS : TC :=
 (.seq (.rg [o1 4 (.lit [.i .i64] [.int .i64 (0)])])
 (.seq (.join [⟨0, [.sl [.i .i64, .s, .s, .s]], false⟩, ⟨1, [.i .i64], false⟩] 8796093022179 none (.seq (.rg [o1 5 (.lit [.i .i64] [.int .i64 (0)])])
 (.block 0 (.loop [⟨0, [.sl [.i .i64, .s, .s, .s]], false⟩, ⟨1, [.i .i64], false⟩, ⟨5, [.i .i64], false⟩] 8796093022179
  (.seq (.seq (.rg [o1 6 (.copy 5),
    ⟨true, [], [], .det 1 (.copy 0), [7], (some 7), none⟩,
    o1 8 (.len 7),
    o1 9 (.data (.bin .lss) [.t 6, .t 8])])
  (.cond (.t 9)
   .skip
   (.exit 0)))
  (.seq (.block 1 (.seq (.rg [⟨true, [], [], .det 1 (.copy 0), [12], (some 12), none⟩,
    o1 13 (.copy 5),
    o1 14 (.copy 1),
    o1 15 (.index 12 (.t 13)),
    o1 16 (.idx (.t 15)),
    o4 1 [0, 7, 12] (.store 0 [(0, 4)] 0 (.t 16) (.t 14))])
  (.seq (.rg [o1 17 (.copy 1),
    o1 18 (.data (.bin .add) [.t 17, .c (.int .i64 (1))]),
    o1 1 (.copy 18)])
  (.seq (.rg [⟨true, [], [], .det 1 (.copy 0), [19], (some 19), none⟩,
    o1 20 (.copy 5),
    o1 21 (.copy 1),
    o3 22 288 [.t 21],
    o1 23 (.index 19 (.t 20)),
    o1 24 (.idx (.t 23)),
    o4 1 [0, 19] (.store 0 [(0, 4)] 1 (.t 24) (.t 22))])
  (.seq (.rg [o1 25 (.copy 1),
    o1 26 (.data (.bin .add) [.t 25, .c (.int .i64 (1))]),
    o1 1 (.copy 26)])
  (.seq (.rg [⟨true, [], [], .det 1 (.copy 0), [27], (some 27), none⟩,
    o1 28 (.copy 5),
    o1 29 (.copy 1),
    o3 30 288 [.t 29],
    o1 31 (.index 27 (.t 28)),
    o1 32 (.idx (.t 31)),
    o4 1 [0, 27] (.store 0 [(0, 4)] 2 (.t 32) (.t 30))])
  (.seq (.rg [o1 33 (.copy 1),
    o1 34 (.data (.bin .add) [.t 33, .c (.int .i64 (1))]),
    o1 1 (.copy 34)])
  (.seq (.rg [⟨true, [], [], .det 1 (.copy 0), [35], (some 35), none⟩,
    o1 36 (.copy 5),
    o1 37 (.copy 1),
    o3 38 288 [.t 37],
    o1 39 (.index 35 (.t 36)),
    o1 40 (.idx (.t 39)),
    o4 1 [0, 35] (.store 0 [(0, 4)] 3 (.t 40) (.t 38))])
  (.rg [o1 41 (.copy 1),
    o1 42 (.data (.bin .add) [.t 41, .c (.int .i64 (1))]),
    o1 1 (.copy 42)])))))))))
  (.rg [o1 10 (.copy 5),
    o1 11 (.data (.bin .add) [.t 10, .c (.int .i64 (1))]),
    o1 5 (.copy 11)])))))))
 (.seq (.rg [o1 43 (.copy 1),
   o1 4 (.copy 43)])
 .ret)))
def s_lmarkActS : Sig := ⟨[.mt false [.sl (.own none) [.d, .d, .d, .d]], .rd false [.d]], (.one false [.d])⟩
noncomputable def E_lmarkActS : TEnv := envOf [(288, p_lmarkText)]
noncomputable def f_lmarkActS (n : Nat) : (List (Int × ByteArray × ByteArray × ByteArray)) × Int → Option ((Int) × List (Int × ByteArray × ByteArray × ByteArray)) := runFn n E_lmarkActS c_lmarkActS [[.sl [.i .i64, .s, .s, .s]], [.i .i64]] [.i .i64] [.sl [.i .i64, .s, .s, .s]] [4] (.mt 0 0 0)
noncomputable def g_lmarkActS := f_lmarkActS BIG
noncomputable def p_lmarkActS : TSp := ⟨s_lmarkActS, [[.sl [.i .i64, .s, .s, .s]], [.i .i64]], [.i .i64], [.sl [.i .i64, .s, .s, .s]], Ou.j (.mt 0 0 0), g_lmarkActS⟩
theorem k_lmarkActS : chkW PG E_lmarkActS 149 s_lmarkActS (c_lmarkActS.ht 44) (.mt 0 0 0) = some (c_lmarkActS.wc E_lmarkActS, [4]) := by kernel_rfl
theorem ok_lmarkActS : p_lmarkActS.Ok PG 149 := mkOk (env_cons ok_lmarkText (env_nil PG)) k_lmarkActS (by kernel_rfl)
theorem e_lmarkActS (n : Nat) (a0 : List (Int × ByteArray × ByteArray × ByteArray)) (a1 : Int) : f_lmarkActS n (a0, a1) =
  Option.bind (loopT n (X := (List (Int × ByteArray × ByteArray × ByteArray)) × Int × Int) (B := (List (Int × ByteArray × ByteArray × ByteArray)) × Int) (fun self1 x0 =>
    bif decide (x0.2.2 < (x0.1.length : Int)) then
     bnd x0.1.length x0.2.2 fun n2 =>
     Option.bind x0.1[n2]? fun y3 =>
     Option.bind (g_lmarkText (IntKind.wrap .i64 (x0.2.1 + (1 : Int)))) fun r4 =>
     bnd (x0.1.set n2 (x0.2.1, y3.2)).length x0.2.2 fun n5 =>
     Option.bind (x0.1.set n2 (x0.2.1, y3.2))[n5]? fun y6 =>
     Option.bind (g_lmarkText (IntKind.wrap .i64 ((IntKind.wrap .i64 (x0.2.1 + (1 : Int))) + (1 : Int)))) fun r7 =>
     bnd ((x0.1.set n2 (x0.2.1, y3.2)).set n5 (y6.1, r4.1, y6.2.2)).length x0.2.2 fun n8 =>
     Option.bind ((x0.1.set n2 (x0.2.1, y3.2)).set n5 (y6.1, r4.1, y6.2.2))[n8]? fun y9 =>
     Option.bind (g_lmarkText (IntKind.wrap .i64 ((IntKind.wrap .i64 ((IntKind.wrap .i64 (x0.2.1 + (1 : Int))) + (1 : Int))) + (1 : Int)))) fun r10 =>
     bnd (((x0.1.set n2 (x0.2.1, y3.2)).set n5 (y6.1, r4.1, y6.2.2)).set n8 (y9.1, y9.2.1, r7.1, y9.2.2.2)).length x0.2.2 fun n11 =>
     Option.bind (((x0.1.set n2 (x0.2.1, y3.2)).set n5 (y6.1, r4.1, y6.2.2)).set n8 (y9.1, y9.2.1, r7.1, y9.2.2.2))[n11]? fun y12 =>
     self1 ((((x0.1.set n2 (x0.2.1, y3.2)).set n5 (y6.1, r4.1, y6.2.2)).set n8 (y9.1, y9.2.1, r7.1, y9.2.2.2)).set n11 (y12.1, y12.2.1, y12.2.2.1, r10.1), IntKind.wrap .i64 ((IntKind.wrap .i64 ((IntKind.wrap .i64 ((IntKind.wrap .i64 (x0.2.1 + (1 : Int))) + (1 : Int))) + (1 : Int))) + (1 : Int)), IntKind.wrap .i64 (x0.2.2 + (1 : Int)))
    else some (x0.1, x0.2.1)) (a0, a1, (0 : Int)) : Option ((List (Int × ByteArray × ByteArray × ByteArray)) × Int)) fun x13 =>
  some (x13.2, x13.1) := by kernel_rfl
/- laws.heldActS -/
def c_lheldActS : TC :=
 (.seq (.rg [o1 4 (.lit [.i .i64] [.int .i64 (0)])])
 (.seq (.join [⟨1, [.i .i64], false⟩] 2251799813685234 (some [⟨4, [.i .i64], false⟩]) (.seq (.rg [o1 5 (.lit [.i .i64] [.int .i64 (0)])])
 (.block 0 (.loop [⟨1, [.i .i64], false⟩, ⟨5, [.i .i64], false⟩] 2251799813685234
  (.seq (.seq (.rg [o1 6 (.copy 5),
    o1 7 (.copy 0),
    o1 8 (.len 7),
    o1 9 (.data (.bin .lss) [.t 6, .t 8])])
  (.cond (.t 9)
   .skip
   (.exit 0)))
  (.seq (.block 1 (.seq (.seq (.rg [o1 12 (.copy 0),
    o1 13 (.copy 5),
    o1 14 (.index 12 (.t 13)),
    o1 15 (.idx (.t 14)),
    o1 16 (.load 12 [(0, 4)] 0 (.t 15) 1 false),
    o1 17 (.copy 1),
    o1 18 (.data (.bin .neq) [.t 16, .t 17])])
  (.cond (.t 18)
   (.seq (.rg [o1 4 (.lit [.i .i64] [.int .i64 (-1)])])
   .ret)
   .skip))
  (.seq (.rg [o1 19 (.copy 1),
    o1 20 (.data (.bin .add) [.t 19, .c (.int .i64 (1))]),
    o1 1 (.copy 20)])
  (.seq (.seq (.rg [o1 21 (.copy 0),
    o1 22 (.copy 5),
    o1 23 (.index 21 (.t 22)),
    o1 24 (.idx (.t 23)),
    o1 25 (.load 21 [(0, 4)] 1 (.t 24) 1 false),
    o1 26 (.copy 1),
    o3 27 288 [.t 26],
    o1 28 (.data (.bin .neq) [.t 25, .t 27])])
  (.cond (.t 28)
   (.seq (.rg [o1 4 (.lit [.i .i64] [.int .i64 (-1)])])
   .ret)
   .skip))
  (.seq (.rg [o1 29 (.copy 1),
    o1 30 (.data (.bin .add) [.t 29, .c (.int .i64 (1))]),
    o1 1 (.copy 30)])
  (.seq (.seq (.rg [o1 31 (.copy 0),
    o1 32 (.copy 5),
    o1 33 (.index 31 (.t 32)),
    o1 34 (.idx (.t 33)),
    o1 35 (.load 31 [(0, 4)] 2 (.t 34) 1 false),
    o1 36 (.copy 1),
    o3 37 288 [.t 36],
    o1 38 (.data (.bin .neq) [.t 35, .t 37])])
  (.cond (.t 38)
   (.seq (.rg [o1 4 (.lit [.i .i64] [.int .i64 (-1)])])
   .ret)
   .skip))
  (.seq (.rg [o1 39 (.copy 1),
    o1 40 (.data (.bin .add) [.t 39, .c (.int .i64 (1))]),
    o1 1 (.copy 40)])
  (.seq (.seq (.rg [o1 41 (.copy 0),
    o1 42 (.copy 5),
    o1 43 (.index 41 (.t 42)),
    o1 44 (.idx (.t 43)),
    o1 45 (.load 41 [(0, 4)] 3 (.t 44) 1 false),
    o1 46 (.copy 1),
    o3 47 288 [.t 46],
    o1 48 (.data (.bin .neq) [.t 45, .t 47])])
  (.cond (.t 48)
   (.seq (.rg [o1 4 (.lit [.i .i64] [.int .i64 (-1)])])
   .ret)
   .skip))
  (.rg [o1 49 (.copy 1),
    o1 50 (.data (.bin .add) [.t 49, .c (.int .i64 (1))]),
    o1 1 (.copy 50)])))))))))
  (.rg [o1 10 (.copy 5),
    o1 11 (.data (.bin .add) [.t 10, .c (.int .i64 (1))]),
    o1 5 (.copy 11)])))))))
 (.seq (.rg [o1 51 (.copy 1),
   o1 4 (.copy 51)])
 .ret)))
def s_lheldActS : Sig := ⟨[.rd false [.sl (.own none) [.d, .d, .d, .d]], .rd false [.d]], (.one false [.d])⟩
noncomputable def E_lheldActS : TEnv := envOf [(288, p_lmarkText)]
noncomputable def f_lheldActS (n : Nat) : (List (Int × ByteArray × ByteArray × ByteArray)) × Int → Option ((Int) × Unit) := runFn n E_lheldActS c_lheldActS [[.sl [.i .i64, .s, .s, .s]], [.i .i64]] [.i .i64] [] [4] .no
noncomputable def g_lheldActS := f_lheldActS BIG
noncomputable def p_lheldActS : TSp := ⟨s_lheldActS, [[.sl [.i .i64, .s, .s, .s]], [.i .i64]], [.i .i64], [], Ou.j .no, g_lheldActS⟩
theorem k_lheldActS : chkW PG E_lheldActS 150 s_lheldActS (c_lheldActS.ht 52) .no = some (c_lheldActS.wc E_lheldActS, [4]) := by kernel_rfl
theorem ok_lheldActS : p_lheldActS.Ok PG 150 := mkOk (env_cons ok_lmarkText (env_nil PG)) k_lheldActS (by kernel_rfl)
theorem e_lheldActS (n : Nat) (a0 : List (Int × ByteArray × ByteArray × ByteArray)) (a1 : Int) : f_lheldActS n (a0, a1) =
  Option.bind (loopT n (X := Int × Int) (B := (Int) ⊕ (Int)) (fun self1 x0 =>
    bif decide (x0.2 < (a0.length : Int)) then
     bnd a0.length x0.2 fun n2 =>
     Option.bind a0[n2]? fun y3 =>
     bif !decide (y3.1 = x0.1) then
      some (Sum.inr (-1 : Int))
     else bnd a0.length x0.2 fun n4 =>
     Option.bind a0[n4]? fun y5 =>
     Option.bind (g_lmarkText (IntKind.wrap .i64 (x0.1 + (1 : Int)))) fun r6 =>
     bif !(y5.2.1.toList == r6.1.toList) then
      some (Sum.inr (-1 : Int))
     else bnd a0.length x0.2 fun n7 =>
     Option.bind a0[n7]? fun y8 =>
     Option.bind (g_lmarkText (IntKind.wrap .i64 ((IntKind.wrap .i64 (x0.1 + (1 : Int))) + (1 : Int)))) fun r9 =>
     bif !(y8.2.2.1.toList == r9.1.toList) then
      some (Sum.inr (-1 : Int))
     else bnd a0.length x0.2 fun n10 =>
     Option.bind a0[n10]? fun y11 =>
     Option.bind (g_lmarkText (IntKind.wrap .i64 ((IntKind.wrap .i64 ((IntKind.wrap .i64 (x0.1 + (1 : Int))) + (1 : Int))) + (1 : Int)))) fun r12 =>
     bif !(y11.2.2.2.toList == r12.1.toList) then
      some (Sum.inr (-1 : Int))
     else self1 (IntKind.wrap .i64 ((IntKind.wrap .i64 ((IntKind.wrap .i64 ((IntKind.wrap .i64 (x0.1 + (1 : Int))) + (1 : Int))) + (1 : Int))) + (1 : Int)), IntKind.wrap .i64 (x0.2 + (1 : Int)))
    else some (Sum.inl x0.1)) (a1, (0 : Int)) : Option ((Int) ⊕ (Int))) fun y => match y with
  | .inl x13 =>
   some (x13, ())
  | .inr x13 =>
   some (x13, ()) := by kernel_rfl
/- laws.FnExactLogActs -/
def c_lFnExactLogActs : TC :=
 (.seq (.rg [o1 3 (.a (.t 0)),
   o1 5 (.a (.t 2)),
   o1 6 (.lit [.b] [.bool false])])
 (.seq (.rg [o1 7 (.lit [.i .i64] [.int .i64 (1048576)])])
 (.seq (.rg [o1 19 (.load 3 [] 0 .nil 1 false),
   o1 20 (.copy 7),
   o3 21 142 [.t 19, .t 20],
   o1 7 (.copy 21)])
 (.seq (.seq (.rg [o1 22 (.copy 7),
   o1 23 (.data (.bin .lss) [.t 22, .c (.int .i64 (0))])])
 (.cond (.t 23)
  (.seq (.rg [o1 6 (.lit [.b] [.bool true])])
  .ret)
  .skip))
 (.seq (.rg [o1 24 (.load 5 [] 0 .nil 14 false),
   o1 25 (.copy 7),
   o3 26 98 [.t 24, .t 25],
   o1 7 (.copy 26)])
 (.seq (.seq (.rg [o1 27 (.copy 7),
   o1 28 (.data (.bin .lss) [.t 27, .c (.int .i64 (0))])])
 (.cond (.t 28)
  (.seq (.rg [o1 6 (.lit [.b] [.bool true])])
  .ret)
  .skip))
 (.seq (.rg [o1 30 (.load 3 [] 0 .nil 1 false),
   o3 31 144 [.t 30],
   o1 32 (.copy 1),
   o1 33 (.load 5 [] 0 .nil 14 false),
   o3 34 100 [.t 33],
   o3 35 143 [.t 31, .t 32, .t 34],
   ⟨false, [], [], .det 2 (.copy 35), [29, 35], (some 29), none⟩,
   ⟨false, [], [], .det 2 (.ext 29 0 1), [36, 29], (some 36), none⟩,
   o1 37 (.ext 29 1 1),
   ⟨false, [], [], .det 2 (.copy 36), [8, 36], (some 8), none⟩,
   o1 9 (.copy 37)])
 (.seq (.rg [o1 38 (.load 3 [] 0 .nil 1 false),
   o3 39 144 [.t 38],
   ⟨false, [], [], .det 2 (.a (.c [.sl [.s, .s, .i .i64]] [.slice none 0 0])), [10, 1000000001], (some 10), none⟩,
   o4 2 [10, 39] (.store 10 [] 0 .nil (.t 39))])
 (.seq (.rg [o1 40 (.load 5 [] 0 .nil 14 false),
   o3 41 100 [.t 40],
   ⟨false, [], [], .det 2 (.a (.c [.i .i64, .i .i64, .i .i64, .i .i64, .i .i64, .i .i64, .i .i64, .b, .sl [.i .i64, .i .i64], .sl [.i .i64], .i .i64, .i .i64, .sl [.i .i64, .i .i64], .i .i64] [.int .i64 (0), .int .i64 (0), .int .i64 (0), .int .i64 (0), .int .i64 (0), .int .i64 (0), .int .i64 (0), .bool false, .slice none 0 0, .slice none 0 0, .int .i64 (0), .int .i64 (0), .slice none 0 0, .int .i64 (0)])), [11, 1000000001], (some 11), none⟩,
   o4 2 [11, 41] (.store 11 [] 0 .nil (.t 41))])
 (.seq (.rg [o1 43 (.load 10 [] 0 .nil 1 true),
   o1 44 (.copy 1),
   o1 45 (.load 11 [] 0 .nil 14 true),
   o3 46 145 [.t 43, .t 44, .t 45],
   ⟨false, [], [], .det 2 (.copy 46), [42, 46], (some 42), none⟩,
   ⟨false, [], [], .det 2 (.ext 42 0 1), [47, 42], (some 47), none⟩,
   o1 48 (.ext 42 1 1),
   ⟨false, [], [], .det 2 (.copy 47), [12, 47], (some 12), none⟩,
   o1 13 (.copy 48)])
 (.seq (.seq (.join [⟨57, [.b], false⟩] 287667426198290432 none (.rg [⟨true, [], [], .det 1 (.copy 12), [49], (some 49), none⟩,
   ⟨true, [], [], .det 1 (.copy 8), [50], (some 50), none⟩,
   o3 51 146 [.t 49, .t 50],
   o1 52 (.data .not [.t 51]),
   o1 53 (.copy 52),
   o2 54 (.copy 13) 4 false,
   o2 55 (.copy 9) 4 false,
   o2 56 (.data (.beq true) [.t 54, .t 55]) 4 false,
   ⟨false, [], [], .pick 53 (.c (.bool true)) (.t 56), [57], (some 57), none⟩]))
 (.cond (.t 57)
  (.seq (.rg [o1 6 (.lit [.b] [.bool false])])
  .ret)
  .skip))
 (.seq (.seq (.rg [o1 58 (.load 10 [] 0 .nil 1 true),
   o1 59 (.load 3 [] 0 .nil 1 false),
   o3 60 144 [.t 59],
   o3 61 147 [.t 58, .t 60],
   o1 62 (.data .not [.t 61])])
 (.cond (.t 62)
  (.seq (.rg [o1 6 (.lit [.b] [.bool false])])
  .ret)
  .skip))
 (.seq (.seq (.rg [o1 63 (.load 11 [] 0 .nil 14 true),
   o1 64 (.load 5 [] 0 .nil 14 false),
   o3 65 100 [.t 64],
   o3 66 102 [.t 63, .t 65],
   o1 67 (.data .not [.t 66])])
 (.cond (.t 67)
  (.seq (.rg [o1 6 (.lit [.b] [.bool false])])
  .ret)
  .skip))
 (.seq (.rg [o1 14 (.lit [.i .i64] [.int .i64 (1)])])
 (.seq (.rg [o1 68 (.load 10 [] 0 .nil 1 true),
   o1 69 (.copy 14),
   ⟨false, [], [], .call 2 148 [.t 68, .t 69] (.mt 10 [] 0 68 0), [70, 10, 43, 58, 68], (some 70), none⟩,
   o1 14 (.copy 70)])
 (.seq (.rg [o1 71 (.load 11 [] 0 .nil 14 true),
   o1 72 (.copy 14),
   ⟨false, [], [], .call 2 128 [.t 71, .t 72] (.mt 11 [] 0 71 0), [73, 11, 45, 63, 71], (some 73), none⟩,
   o1 14 (.copy 73)])
 (.seq (.seq (.join [⟨86, [.b], false⟩] 154723615444741055781535744 none (.rg [o1 74 (.copy 14),
   o1 75 (.data (.bin .lss) [.t 74, .c (.int .i64 (0))]),
   o1 76 (.copy 75),
   ⟨true, [], [], .det 1 (.copy 12), [77], (some 77), some (2, false)⟩,
   ⟨true, [], [], .det 1 (.copy 8), [78], (some 78), some (2, false)⟩,
   ⟨false, [], [], .call 1 146 [.t 77, .t 78] .no, [79], (some 79), some (2, false)⟩,
   o2 80 (.data .not [.t 79]) 2 false,
   ⟨false, [], [], .pick 76 (.c (.bool true)) (.t 80), [81], (some 81), none⟩,
   o1 82 (.copy 81),
   o2 83 (.copy 13) 8 false,
   o2 84 (.copy 9) 8 false,
   o2 85 (.data (.beq true) [.t 83, .t 84]) 8 false,
   ⟨false, [], [], .pick 82 (.c (.bool true)) (.t 85), [86], (some 86), none⟩]))
 (.cond (.t 86)
  (.seq (.rg [o1 6 (.lit [.b] [.bool false])])
  .ret)
  .skip))
 (.seq (.rg [o1 15 (.lit [.i .i64] [.int .i64 (1)])])
 (.seq (.rg [⟨true, [], [], .det 1 (.copy 12), [87], (some 87), none⟩,
   o1 88 (.copy 15),
   ⟨false, [], [], .call 2 149 [.t 87, .t 88] (.mt 12 [] 0 87 0), [89, 12, 49, 87], (some 89), none⟩,
   o1 15 (.copy 89)])
 (.seq (.rg [o1 16 (.lit [.i .i64] [.int .i64 (1)])])
 (.seq (.rg [⟨true, [], [], .det 1 (.copy 12), [90], (some 90), none⟩,
   o1 91 (.copy 16),
   o3 92 150 [.t 90, .t 91],
   o1 16 (.copy 92)])
 (.seq (.seq (.rg [o1 93 (.copy 16),
   o1 94 (.data (.bin .lss) [.t 93, .c (.int .i64 (0))])])
 (.cond (.t 94)
  (.seq (.rg [o1 6 (.lit [.b] [.bool false])])
  .ret)
  .skip))
 (.seq (.seq (.rg [o1 95 (.copy 16),
   o1 96 (.copy 15),
   o1 97 (.data (.bin .neq) [.t 95, .t 96])])
 (.cond (.t 97)
  (.seq (.rg [o1 6 (.lit [.b] [.bool false])])
  .ret)
  .skip))
 (.seq (.rg [o1 99 (.load 3 [] 0 .nil 1 false),
   o3 100 144 [.t 99],
   o1 101 (.copy 1),
   o1 102 (.load 5 [] 0 .nil 14 false),
   o3 103 100 [.t 102],
   o3 104 145 [.t 100, .t 101, .t 103],
   ⟨false, [], [], .det 2 (.copy 104), [98, 104], (some 98), none⟩,
   ⟨false, [], [], .det 2 (.ext 98 0 1), [105, 98], (some 105), none⟩,
   o1 106 (.ext 98 1 1),
   ⟨false, [], [], .det 2 (.copy 105), [17, 105], (some 17), none⟩,
   o1 18 (.copy 106)])
 (.seq (.seq (.join [⟨115, [.b], false⟩] 82914490459728028694222263164207360 none (.rg [⟨false, [], [], .det 2 (.copy 17), [107, 17], (some 107), none⟩,
   ⟨false, [], [], .det 2 (.copy 8), [108, 8, 50], (some 108), none⟩,
   o3 109 146 [.t 107, .t 108],
   o1 110 (.data .not [.t 109]),
   o1 111 (.copy 110),
   o2 112 (.copy 18) 4 false,
   o2 113 (.copy 9) 4 false,
   o2 114 (.data (.beq true) [.t 112, .t 113]) 4 false,
   ⟨false, [], [], .pick 111 (.c (.bool true)) (.t 114), [115], (some 115), none⟩]))
 (.cond (.t 115)
  (.seq (.rg [o1 6 (.lit [.b] [.bool false])])
  .ret)
  .skip))
 (.seq (.rg [o1 16 (.lit [.i .i64] [.int .i64 (1)])])
 (.seq (.rg [⟨false, [], [], .det 2 (.copy 12), [116, 12, 90], (some 116), none⟩,
   o1 117 (.copy 16),
   o3 118 150 [.t 116, .t 117],
   o1 16 (.copy 118)])
 (.seq (.seq (.rg [o1 119 (.copy 16),
   o1 120 (.data (.bin .lss) [.t 119, .c (.int .i64 (0))])])
 (.cond (.t 120)
  (.seq (.rg [o1 6 (.lit [.b] [.bool false])])
  .ret)
  .skip))
 (.seq (.seq (.rg [o1 121 (.copy 16),
   o1 122 (.copy 15),
   o1 123 (.data (.bin .neq) [.t 121, .t 122])])
 (.cond (.t 123)
  (.seq (.rg [o1 6 (.lit [.b] [.bool false])])
  .ret)
  .skip))
 (.seq (.rg [o1 6 (.lit [.b] [.bool true])])
 .ret))))))))))))))))))))))))))))))
def s_lFnExactLogActs : Sig := ⟨[.rd true [.sl (.own none) [.d, .d, .d]], .rd false [.d], .rd true [.d, .d, .d, .d, .d, .d, .d, .d, .sl (.own none) [.d, .d], .sl (.own none) [.d], .d, .d, .sl (.own none) [.d, .d], .d]], (.one false [.d])⟩
noncomputable def E_lFnExactLogActs : TEnv := envOf [(142, p_lszDisk), (98, p_lszRec), (144, p_ltoDisk), (100, p_ltoRec), (143, p_sLogActs), (145, p_iLogActs), (146, p_leqActS), (147, p_leqDisk), (102, p_leqRec), (148, p_lmarkDisk), (128, p_lmarkRec), (149, p_lmarkActS), (150, p_lheldActS)]
noncomputable def f_lFnExactLogActs (n : Nat) : (List (ByteArray × ByteArray × Int)) × Int × (Int × Int × Int × Int × Int × Int × Int × Bool × List (Int × Int) × List (Int) × Int × Int × List (Int × Int) × Int) → Option ((Bool) × Unit) := runFn n E_lFnExactLogActs c_lFnExactLogActs [[.sl [.s, .s, .i .i64]], [.i .i64], [.i .i64, .i .i64, .i .i64, .i .i64, .i .i64, .i .i64, .i .i64, .b, .sl [.i .i64, .i .i64], .sl [.i .i64], .i .i64, .i .i64, .sl [.i .i64, .i .i64], .i .i64]] [.b] [] [6] .no
noncomputable def g_lFnExactLogActs := f_lFnExactLogActs BIG
noncomputable def p_lFnExactLogActs : TSp := ⟨s_lFnExactLogActs, [[.sl [.s, .s, .i .i64]], [.i .i64], [.i .i64, .i .i64, .i .i64, .i .i64, .i .i64, .i .i64, .i .i64, .b, .sl [.i .i64, .i .i64], .sl [.i .i64], .i .i64, .i .i64, .sl [.i .i64, .i .i64], .i .i64]], [.b], [], Ou.j .no, g_lFnExactLogActs⟩
theorem k_lFnExactLogActs : chkW PG E_lFnExactLogActs 24 s_lFnExactLogActs (c_lFnExactLogActs.ht 124) .no = some (c_lFnExactLogActs.wc E_lFnExactLogActs, [6]) := by kernel_rfl
theorem ok_lFnExactLogActs : p_lFnExactLogActs.Ok PG 24 := mkOk (env_cons ok_lszDisk (env_cons ok_lszRec (env_cons ok_ltoDisk (env_cons ok_ltoRec (env_cons ok_sLogActs (env_cons ok_iLogActs (env_cons ok_leqActS (env_cons ok_leqDisk (env_cons ok_leqRec (env_cons ok_lmarkDisk (env_cons ok_lmarkRec (env_cons ok_lmarkActS (env_cons ok_lheldActS (env_nil PG)))))))))))))) k_lFnExactLogActs (by kernel_rfl)
theorem e_lFnExactLogActs (n : Nat) (a0 : List (ByteArray × ByteArray × Int)) (a1 : Int) (a2 : Int × Int × Int × Int × Int × Int × Int × Bool × List (Int × Int) × List (Int) × Int × Int × List (Int × Int) × Int) : f_lFnExactLogActs n (a0, a1, a2) =
  Option.bind (g_lszDisk (a0, (1048576 : Int))) fun r0 =>
  bif decide (r0.1 < (0 : Int)) then
   some (true, ())
  else Option.bind (g_lszRec (a2, r0.1)) fun r1 =>
  bif decide (r1.1 < (0 : Int)) then
   some (true, ())
  else Option.bind (g_ltoDisk a0) fun r2 =>
  Option.bind (g_ltoRec a2) fun r3 =>
  Option.bind (g_sLogActs (r2.1, a1, r3.1)) fun r4 =>
  Option.bind (g_ltoDisk a0) fun r5 =>
  Option.bind (g_ltoRec a2) fun r6 =>
  Option.bind (g_iLogActs (r5.1, a1, r6.1)) fun r7 =>
  Option.bind (Option.bind (g_leqActS (r7.1.1, r4.1.1)) fun r8 =>
   bif !r8.1 then
    some true
   else some (!(r7.1.2 == r4.1.2)) : Option (Bool)) fun x9 =>
  bif x9 then
   some (false, ())
  else Option.bind (g_ltoDisk a0) fun r10 =>
  Option.bind (g_leqDisk (r5.1, r10.1)) fun r11 =>
  bif !r11.1 then
   some (false, ())
  else Option.bind (g_ltoRec a2) fun r12 =>
  Option.bind (g_leqRec (r6.1, r12.1)) fun r13 =>
  bif !r13.1 then
   some (false, ())
  else Option.bind (g_lmarkDisk (r5.1, (1 : Int))) fun r14 =>
  Option.bind (g_lmarkRec (r6.1, r14.1)) fun r15 =>
  Option.bind (bif decide (r15.1 < (0 : Int)) then
    some true
   else Option.bind (g_leqActS (r7.1.1, r4.1.1)) fun r16 =>
   bif !r16.1 then
    some true
   else some (!(r7.1.2 == r4.1.2)) : Option (Bool)) fun x17 =>
  bif x17 then
   some (false, ())
  else Option.bind (g_lmarkActS (r7.1.1, (1 : Int))) fun r18 =>
  Option.bind (g_lheldActS (r18.2, (1 : Int))) fun r19 =>
  bif decide (r19.1 < (0 : Int)) then
   some (false, ())
  else bif !decide (r19.1 = r18.1) then
   some (false, ())
  else Option.bind (g_ltoDisk a0) fun r20 =>
  Option.bind (g_ltoRec a2) fun r21 =>
  Option.bind (g_iLogActs (r20.1, a1, r21.1)) fun r22 =>
  Option.bind (Option.bind (g_leqActS (r22.1.1, r4.1.1)) fun r23 =>
   bif !r23.1 then
    some true
   else some (!(r22.1.2 == r4.1.2)) : Option (Bool)) fun x24 =>
  bif x24 then
   some (false, ())
  else Option.bind (g_lheldActS (r18.2, (1 : Int))) fun r25 =>
  bif decide (r25.1 < (0 : Int)) then
   some (false, ())
  else bif !decide (r25.1 = r18.1) then
   some (false, ())
  else some (true, ()) := by kernel_rfl
/- laws.heldEdgeS -/
def c_lheldEdgeS : TC :=
 (.seq (.rg [o1 4 (.lit [.i .i64] [.int .i64 (0)])])
 (.seq (.join [⟨1, [.i .i64], false⟩] 1073741810 (some [⟨4, [.i .i64], false⟩]) (.seq (.rg [o1 5 (.lit [.i .i64] [.int .i64 (0)])])
 (.block 0 (.loop [⟨1, [.i .i64], false⟩, ⟨5, [.i .i64], false⟩] 1073741810
  (.seq (.seq (.rg [o1 6 (.copy 5),
    o1 7 (.copy 0),
    o1 8 (.len 7),
    o1 9 (.data (.bin .lss) [.t 6, .t 8])])
  (.cond (.t 9)
   .skip
   (.exit 0)))
  (.seq (.block 1 (.seq (.seq (.rg [o1 12 (.copy 0),
    o1 13 (.copy 5),
    o1 14 (.index 12 (.t 13)),
    o1 15 (.idx (.t 14)),
    o1 16 (.load 12 [(0, 2)] 0 (.t 15) 1 false),
    o1 17 (.copy 1),
    o1 18 (.data (.bin .neq) [.t 16, .t 17])])
  (.cond (.t 18)
   (.seq (.rg [o1 4 (.lit [.i .i64] [.int .i64 (-1)])])
   .ret)
   .skip))
  (.seq (.rg [o1 19 (.copy 1),
    o1 20 (.data (.bin .add) [.t 19, .c (.int .i64 (1))]),
    o1 1 (.copy 20)])
  (.seq (.seq (.rg [o1 21 (.copy 0),
    o1 22 (.copy 5),
    o1 23 (.index 21 (.t 22)),
    o1 24 (.idx (.t 23)),
    o1 25 (.load 21 [(0, 2)] 1 (.t 24) 1 false),
    o1 26 (.copy 1),
    o1 27 (.data (.bin .neq) [.t 25, .t 26])])
  (.cond (.t 27)
   (.seq (.rg [o1 4 (.lit [.i .i64] [.int .i64 (-1)])])
   .ret)
   .skip))
  (.rg [o1 28 (.copy 1),
    o1 29 (.data (.bin .add) [.t 28, .c (.int .i64 (1))]),
    o1 1 (.copy 29)])))))
  (.rg [o1 10 (.copy 5),
    o1 11 (.data (.bin .add) [.t 10, .c (.int .i64 (1))]),
    o1 5 (.copy 11)])))))))
 (.seq (.rg [o1 30 (.copy 1),
   o1 4 (.copy 30)])
 .ret)))
def s_lheldEdgeS : Sig := ⟨[.rd false [.sl (.own none) [.d, .d]], .rd false [.d]], (.one false [.d])⟩
noncomputable def E_lheldEdgeS : TEnv := envOf []
noncomputable def f_lheldEdgeS (n : Nat) : (List (Int × Int)) × Int → Option ((Int) × Unit) := runFn n E_lheldEdgeS c_lheldEdgeS [[.sl [.i .i64, .i .i64]], [.i .i64]] [.i .i64] [] [4] .no
noncomputable def g_lheldEdgeS := f_lheldEdgeS BIG
noncomputable def p_lheldEdgeS : TSp := ⟨s_lheldEdgeS, [[.sl [.i .i64, .i .i64]], [.i .i64]], [.i .i64], [], Ou.j .no, g_lheldEdgeS⟩
theorem k_lheldEdgeS : chkW PG E_lheldEdgeS 63 s_lheldEdgeS (c_lheldEdgeS.ht 31) .no = some (c_lheldEdgeS.wc E_lheldEdgeS, [4]) := by kernel_rfl
theorem ok_lheldEdgeS : p_lheldEdgeS.Ok PG 63 := mkOk (env_nil PG) k_lheldEdgeS (by kernel_rfl)
theorem e_lheldEdgeS (n : Nat) (a0 : List (Int × Int)) (a1 : Int) : f_lheldEdgeS n (a0, a1) =
  Option.bind (loopT n (X := Int × Int) (B := (Int) ⊕ (Int)) (fun self1 x0 =>
    bif decide (x0.2 < (a0.length : Int)) then
     bnd a0.length x0.2 fun n2 =>
     Option.bind a0[n2]? fun y3 =>
     bif !decide (y3.1 = x0.1) then
      some (Sum.inr (-1 : Int))
     else bnd a0.length x0.2 fun n4 =>
     Option.bind a0[n4]? fun y5 =>
     bif !decide (y5.2 = (IntKind.wrap .i64 (x0.1 + (1 : Int)))) then
      some (Sum.inr (-1 : Int))
     else self1 (IntKind.wrap .i64 ((IntKind.wrap .i64 (x0.1 + (1 : Int))) + (1 : Int)), IntKind.wrap .i64 (x0.2 + (1 : Int)))
    else some (Sum.inl x0.1)) (a1, (0 : Int)) : Option ((Int) ⊕ (Int))) fun y => match y with
  | .inl x6 =>
   some (x6, ())
  | .inr x6 =>
   some (x6, ()) := by kernel_rfl
/- laws.heldIntS -/
def c_lheldIntS : TC :=
 (.seq (.rg [o1 4 (.lit [.i .i64] [.int .i64 (0)])])
 (.seq (.join [⟨1, [.i .i64], false⟩] 1048562 (some [⟨4, [.i .i64], false⟩]) (.seq (.rg [o1 5 (.lit [.i .i64] [.int .i64 (0)])])
 (.block 0 (.loop [⟨1, [.i .i64], false⟩, ⟨5, [.i .i64], false⟩] 1048562
  (.seq (.seq (.rg [o1 6 (.copy 5),
    o1 7 (.copy 0),
    o1 8 (.len 7),
    o1 9 (.data (.bin .lss) [.t 6, .t 8])])
  (.cond (.t 9)
   .skip
   (.exit 0)))
  (.seq (.block 1 (.seq (.seq (.rg [o1 12 (.copy 0),
    o1 13 (.copy 5),
    o1 14 (.index 12 (.t 13)),
    o1 15 (.load 12 [(0, 1)] 0 (.t 14) 1 false),
    o1 16 (.copy 1),
    o1 17 (.data (.bin .neq) [.t 15, .t 16])])
  (.cond (.t 17)
   (.seq (.rg [o1 4 (.lit [.i .i64] [.int .i64 (-1)])])
   .ret)
   .skip))
  (.rg [o1 18 (.copy 1),
    o1 19 (.data (.bin .add) [.t 18, .c (.int .i64 (1))]),
    o1 1 (.copy 19)])))
  (.rg [o1 10 (.copy 5),
    o1 11 (.data (.bin .add) [.t 10, .c (.int .i64 (1))]),
    o1 5 (.copy 11)])))))))
 (.seq (.rg [o1 20 (.copy 1),
   o1 4 (.copy 20)])
 .ret)))
def s_lheldIntS : Sig := ⟨[.rd false [.sl (.own none) [.d]], .rd false [.d]], (.one false [.d])⟩
noncomputable def E_lheldIntS : TEnv := envOf []
noncomputable def f_lheldIntS (n : Nat) : List (Int) × Int → Option ((Int) × Unit) := runFn n E_lheldIntS c_lheldIntS [[.sl [.i .i64]], [.i .i64]] [.i .i64] [] [4] .no
noncomputable def g_lheldIntS := f_lheldIntS BIG
noncomputable def p_lheldIntS : TSp := ⟨s_lheldIntS, [[.sl [.i .i64]], [.i .i64]], [.i .i64], [], Ou.j .no, g_lheldIntS⟩
theorem k_lheldIntS : chkW PG E_lheldIntS 45 s_lheldIntS (c_lheldIntS.ht 21) .no = some (c_lheldIntS.wc E_lheldIntS, [4]) := by kernel_rfl
theorem ok_lheldIntS : p_lheldIntS.Ok PG 45 := mkOk (env_nil PG) k_lheldIntS (by kernel_rfl)
theorem e_lheldIntS (n : Nat) (a0 : List (Int)) (a1 : Int) : f_lheldIntS n (a0, a1) =
  Option.bind (loopT n (X := Int × Int) (B := (Int) ⊕ (Int)) (fun self1 x0 =>
    bif decide (x0.2 < (a0.length : Int)) then
     bnd a0.length x0.2 fun n2 =>
     Option.bind a0[n2]? fun y3 =>
     bif !decide (y3 = x0.1) then
      some (Sum.inr (-1 : Int))
     else self1 (IntKind.wrap .i64 (x0.1 + (1 : Int)), IntKind.wrap .i64 (x0.2 + (1 : Int)))
    else some (Sum.inl x0.1)) (a1, (0 : Int)) : Option ((Int) ⊕ (Int))) fun y => match y with
  | .inl x4 =>
   some (x4, ())
  | .inr x4 =>
   some (x4, ()) := by kernel_rfl
/- laws.heldAnswer -/
def c_lheldAnswer : TC :=
 (.seq (.rg [o1 2 (.a (.t 0)),
   o1 4 (.lit [.i .i64] [.int .i64 (0)])])
 (.seq (.rg [o1 5 (.idx .nil),
   o1 6 (.load 2 [] 2 (.t 5) 1 false),
   o1 7 (.copy 1),
   o3 8 63 [.t 6, .t 7],
   o1 1 (.copy 8)])
 (.seq (.seq (.rg [o1 9 (.copy 1),
   o1 10 (.data (.bin .lss) [.t 9, .c (.int .i64 (0))])])
 (.cond (.t 10)
  (.seq (.rg [o1 4 (.lit [.i .i64] [.int .i64 (-1)])])
  .ret)
  .skip))
 (.seq (.rg [o1 11 (.idx .nil),
   o1 12 (.load 2 [] 3 (.t 11) 1 false),
   o1 13 (.copy 1),
   o3 14 45 [.t 12, .t 13],
   o1 1 (.copy 14)])
 (.seq (.seq (.rg [o1 15 (.copy 1),
   o1 16 (.data (.bin .lss) [.t 15, .c (.int .i64 (0))])])
 (.cond (.t 16)
  (.seq (.rg [o1 4 (.lit [.i .i64] [.int .i64 (-1)])])
  .ret)
  .skip))
 (.seq (.rg [o1 17 (.copy 1),
   o1 4 (.copy 17)])
 .ret))))))
def s_lheldAnswer : Sig := ⟨[.rd true [.d, .d, .sl (.own none) [.d, .d], .sl (.own none) [.d]], .rd false [.d]], (.one false [.d])⟩
noncomputable def E_lheldAnswer : TEnv := envOf [(63, p_lheldEdgeS), (45, p_lheldIntS)]
noncomputable def f_lheldAnswer (n : Nat) : (Int × Bool × List (Int × Int) × List (Int)) × Int → Option ((Int) × Unit) := runFn n E_lheldAnswer c_lheldAnswer [[.i .i64, .b, .sl [.i .i64, .i .i64], .sl [.i .i64]], [.i .i64]] [.i .i64] [] [4] .no
noncomputable def g_lheldAnswer := f_lheldAnswer BIG
noncomputable def p_lheldAnswer : TSp := ⟨s_lheldAnswer, [[.i .i64, .b, .sl [.i .i64, .i .i64], .sl [.i .i64]], [.i .i64]], [.i .i64], [], Ou.j .no, g_lheldAnswer⟩
theorem k_lheldAnswer : chkW PG E_lheldAnswer 75 s_lheldAnswer (c_lheldAnswer.ht 18) .no = some (c_lheldAnswer.wc E_lheldAnswer, [4]) := by kernel_rfl
theorem ok_lheldAnswer : p_lheldAnswer.Ok PG 75 := mkOk (env_cons ok_lheldEdgeS (env_cons ok_lheldIntS (env_nil PG))) k_lheldAnswer (by kernel_rfl)
theorem e_lheldAnswer (n : Nat) (a0 : Int × Bool × List (Int × Int) × List (Int)) (a1 : Int) : f_lheldAnswer n (a0, a1) =
  Option.bind (g_lheldEdgeS (a0.2.2.1, a1)) fun r0 =>
  bif decide (r0.1 < (0 : Int)) then
   some ((-1 : Int), ())
  else Option.bind (g_lheldIntS (a0.2.2.2, r0.1)) fun r1 =>
  bif decide (r1.1 < (0 : Int)) then
   some ((-1 : Int), ())
  else some (r1.1, ()) := by kernel_rfl
/- laws.heldOrder -/
def c_lheldOrder : TC :=
 (.seq (.rg [o1 2 (.a (.t 0)),
   o1 4 (.lit [.i .i64] [.int .i64 (0)])])
 (.seq (.rg [o1 5 (.idx .nil),
   o1 6 (.load 2 [] 2 (.t 5) 1 false),
   o1 7 (.copy 1),
   o3 8 63 [.t 6, .t 7],
   o1 1 (.copy 8)])
 (.seq (.seq (.rg [o1 9 (.copy 1),
   o1 10 (.data (.bin .lss) [.t 9, .c (.int .i64 (0))])])
 (.cond (.t 10)
  (.seq (.rg [o1 4 (.lit [.i .i64] [.int .i64 (-1)])])
  .ret)
  .skip))
 (.seq (.rg [o1 11 (.copy 1),
   o1 4 (.copy 11)])
 .ret))))
def s_lheldOrder : Sig := ⟨[.rd true [.d, .d, .sl (.own none) [.d, .d], .d], .rd false [.d]], (.one false [.d])⟩
noncomputable def E_lheldOrder : TEnv := envOf [(63, p_lheldEdgeS)]
noncomputable def f_lheldOrder (n : Nat) : (Int × Int × List (Int × Int) × Int) × Int → Option ((Int) × Unit) := runFn n E_lheldOrder c_lheldOrder [[.i .i64, .i .i64, .sl [.i .i64, .i .i64], .i .i64], [.i .i64]] [.i .i64] [] [4] .no
noncomputable def g_lheldOrder := f_lheldOrder BIG
noncomputable def p_lheldOrder : TSp := ⟨s_lheldOrder, [[.i .i64, .i .i64, .sl [.i .i64, .i .i64], .i .i64], [.i .i64]], [.i .i64], [], Ou.j .no, g_lheldOrder⟩
theorem k_lheldOrder : chkW PG E_lheldOrder 59 s_lheldOrder (c_lheldOrder.ht 12) .no = some (c_lheldOrder.wc E_lheldOrder, [4]) := by kernel_rfl
theorem ok_lheldOrder : p_lheldOrder.Ok PG 59 := mkOk (env_cons ok_lheldEdgeS (env_nil PG)) k_lheldOrder (by kernel_rfl)
theorem e_lheldOrder (n : Nat) (a0 : Int × Int × List (Int × Int) × Int) (a1 : Int) : f_lheldOrder n (a0, a1) =
  Option.bind (g_lheldEdgeS (a0.2.2.1, a1)) fun r0 =>
  bif decide (r0.1 < (0 : Int)) then
   some ((-1 : Int), ())
  else some (r0.1, ()) := by kernel_rfl
/- laws.heldRec -/
def c_lheldRec : TC :=
 (.seq (.rg [o1 2 (.a (.t 0)),
   o1 4 (.lit [.i .i64] [.int .i64 (0)])])
 (.seq (.rg [o1 5 (.idx .nil),
   o1 6 (.load 2 [] 6 (.t 5) 4 false),
   o1 7 (.copy 1),
   o3 8 75 [.t 6, .t 7],
   o1 1 (.copy 8)])
 (.seq (.seq (.rg [o1 9 (.copy 1),
   o1 10 (.data (.bin .lss) [.t 9, .c (.int .i64 (0))])])
 (.cond (.t 10)
  (.seq (.rg [o1 4 (.lit [.i .i64] [.int .i64 (-1)])])
  .ret)
  .skip))
 (.seq (.rg [o1 11 (.idx .nil),
   o1 12 (.load 2 [] 10 (.t 11) 4 false),
   o1 13 (.copy 1),
   o3 14 59 [.t 12, .t 13],
   o1 1 (.copy 14)])
 (.seq (.seq (.rg [o1 15 (.copy 1),
   o1 16 (.data (.bin .lss) [.t 15, .c (.int .i64 (0))])])
 (.cond (.t 16)
  (.seq (.rg [o1 4 (.lit [.i .i64] [.int .i64 (-1)])])
  .ret)
  .skip))
 (.seq (.rg [o1 17 (.copy 1),
   o1 4 (.copy 17)])
 .ret))))))
def s_lheldRec : Sig := ⟨[.rd true [.d, .d, .d, .d, .d, .d, .d, .d, .sl (.own none) [.d, .d], .sl (.own none) [.d], .d, .d, .sl (.own none) [.d, .d], .d], .rd false [.d]], (.one false [.d])⟩
noncomputable def E_lheldRec : TEnv := envOf [(75, p_lheldAnswer), (59, p_lheldOrder)]
noncomputable def f_lheldRec (n : Nat) : (Int × Int × Int × Int × Int × Int × Int × Bool × List (Int × Int) × List (Int) × Int × Int × List (Int × Int) × Int) × Int → Option ((Int) × Unit) := runFn n E_lheldRec c_lheldRec [[.i .i64, .i .i64, .i .i64, .i .i64, .i .i64, .i .i64, .i .i64, .b, .sl [.i .i64, .i .i64], .sl [.i .i64], .i .i64, .i .i64, .sl [.i .i64, .i .i64], .i .i64], [.i .i64]] [.i .i64] [] [4] .no
noncomputable def g_lheldRec := f_lheldRec BIG
noncomputable def p_lheldRec : TSp := ⟨s_lheldRec, [[.i .i64, .i .i64, .i .i64, .i .i64, .i .i64, .i .i64, .i .i64, .b, .sl [.i .i64, .i .i64], .sl [.i .i64], .i .i64, .i .i64, .sl [.i .i64, .i .i64], .i .i64], [.i .i64]], [.i .i64], [], Ou.j .no, g_lheldRec⟩
theorem k_lheldRec : chkW PG E_lheldRec 129 s_lheldRec (c_lheldRec.ht 18) .no = some (c_lheldRec.wc E_lheldRec, [4]) := by kernel_rfl
theorem ok_lheldRec : p_lheldRec.Ok PG 129 := mkOk (env_cons ok_lheldAnswer (env_cons ok_lheldOrder (env_nil PG))) k_lheldRec (by kernel_rfl)
theorem e_lheldRec (n : Nat) (a0 : Int × Int × Int × Int × Int × Int × Int × Bool × List (Int × Int) × List (Int) × Int × Int × List (Int × Int) × Int) (a1 : Int) : f_lheldRec n (a0, a1) =
  Option.bind (g_lheldAnswer ((a0.2.2.2.2.2.2.1, a0.2.2.2.2.2.2.2.1, a0.2.2.2.2.2.2.2.2.1, a0.2.2.2.2.2.2.2.2.2.1), a1)) fun r0 =>
  bif decide (r0.1 < (0 : Int)) then
   some ((-1 : Int), ())
  else Option.bind (g_lheldOrder (a0.2.2.2.2.2.2.2.2.2.2, r0.1)) fun r1 =>
  bif decide (r1.1 < (0 : Int)) then
   some ((-1 : Int), ())
  else some (r1.1, ()) := by kernel_rfl
end Go.Fw
