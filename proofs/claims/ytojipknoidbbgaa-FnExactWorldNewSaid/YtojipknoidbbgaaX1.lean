/- The given functions, as what they compute; each is shown to be what the code does. No conditions. -/
import Derived.Test.YtojipknoidbbgaaX0
set_option linter.unusedVariables false
set_option linter.unusedSimpArgs false
namespace Go.Fw
/- laws.markFileS -/
def c_lmarkFileS : TC :=
 (.seq (.rg [o1 4 (.lit [.i .i64] [.int .i64 (0)])])
 (.seq (.join [⟨0, [.sl [.s, .s, .i .i64]], false⟩, ⟨1, [.i .i64], false⟩] 34359738339 none (.seq (.rg [o1 5 (.lit [.i .i64] [.int .i64 (0)])])
 (.block 0 (.loop [⟨0, [.sl [.s, .s, .i .i64]], false⟩, ⟨1, [.i .i64], false⟩, ⟨5, [.i .i64], false⟩] 34359738339
  (.seq (.seq (.rg [o1 6 (.copy 5),
    ⟨true, [], [], .det 1 (.copy 0), [7], (some 7), none⟩,
    o1 8 (.len 7),
    o1 9 (.data (.bin .lss) [.t 6, .t 8])])
  (.cond (.t 9)
   .skip
   (.exit 0)))
  (.seq (.block 1 (.seq (.rg [⟨true, [], [], .det 1 (.copy 0), [12], (some 12), none⟩,
    o1 13 (.copy 5),
    o1 14 (.copy 1),
    o3 15 161 [.t 14],
    o1 16 (.index 12 (.t 13)),
    o1 17 (.idx (.t 16)),
    o4 1 [0, 7, 12] (.store 0 [(0, 3)] 0 (.t 17) (.t 15))])
  (.seq (.rg [o1 18 (.copy 1),
    o1 19 (.data (.bin .add) [.t 18, .c (.int .i64 (1))]),
    o1 1 (.copy 19)])
  (.seq (.rg [⟨true, [], [], .det 1 (.copy 0), [20], (some 20), none⟩,
    o1 21 (.copy 5),
    o1 22 (.copy 1),
    o3 23 161 [.t 22],
    o1 24 (.index 20 (.t 21)),
    o1 25 (.idx (.t 24)),
    o4 1 [0, 20] (.store 0 [(0, 3)] 1 (.t 25) (.t 23))])
  (.seq (.rg [o1 26 (.copy 1),
    o1 27 (.data (.bin .add) [.t 26, .c (.int .i64 (1))]),
    o1 1 (.copy 27)])
  (.seq (.rg [⟨true, [], [], .det 1 (.copy 0), [28], (some 28), none⟩,
    o1 29 (.copy 5),
    o1 30 (.copy 1),
    o1 31 (.index 28 (.t 29)),
    o1 32 (.idx (.t 31)),
    o4 1 [0, 28] (.store 0 [(0, 3)] 2 (.t 32) (.t 30))])
  (.rg [o1 33 (.copy 1),
    o1 34 (.data (.bin .add) [.t 33, .c (.int .i64 (1))]),
    o1 1 (.copy 34)])))))))
  (.rg [o1 10 (.copy 5),
    o1 11 (.data (.bin .add) [.t 10, .c (.int .i64 (1))]),
    o1 5 (.copy 11)])))))))
 (.seq (.rg [o1 35 (.copy 1),
   o1 4 (.copy 35)])
 .ret)))
def s_lmarkFileS : Sig := ⟨[.mt false [.sl (.own none) [.d, .d, .d]], .rd false [.d]], (.one false [.d])⟩
noncomputable def E_lmarkFileS : TEnv := envOf [(161, p_lmarkText)]
noncomputable def f_lmarkFileS (n : Nat) : (List (ByteArray × ByteArray × Int)) × Int → Option ((Int) × List (ByteArray × ByteArray × Int)) := runFn n E_lmarkFileS c_lmarkFileS [[.sl [.s, .s, .i .i64]], [.i .i64]] [.i .i64] [.sl [.s, .s, .i .i64]] [4] (.mt 0 0 0)
noncomputable def g_lmarkFileS := f_lmarkFileS BIG
noncomputable def p_lmarkFileS : TSp := ⟨s_lmarkFileS, [[.sl [.s, .s, .i .i64]], [.i .i64]], [.i .i64], [.sl [.s, .s, .i .i64]], Ou.j (.mt 0 0 0), g_lmarkFileS⟩
theorem k_lmarkFileS : chkW PG E_lmarkFileS 160 s_lmarkFileS (c_lmarkFileS.ht 36) (.mt 0 0 0) = some (c_lmarkFileS.wc E_lmarkFileS, [4]) := by kernel_rfl
theorem ok_lmarkFileS : p_lmarkFileS.Ok PG 160 := mkOk (env_cons ok_lmarkText (env_nil PG)) k_lmarkFileS (by kernel_rfl)
theorem e_lmarkFileS (n : Nat) (a0 : List (ByteArray × ByteArray × Int)) (a1 : Int) : f_lmarkFileS n (a0, a1) =
  Option.bind (loopT n (X := (List (ByteArray × ByteArray × Int)) × Int × Int) (B := (List (ByteArray × ByteArray × Int)) × Int) (fun self1 x0 =>
    bif decide (x0.2.2 < (x0.1.length : Int)) then
     Option.bind (g_lmarkText x0.2.1) fun r2 =>
     bnd x0.1.length x0.2.2 fun n3 =>
     Option.bind x0.1[n3]? fun y4 =>
     Option.bind (g_lmarkText (IntKind.wrap .i64 (x0.2.1 + (1 : Int)))) fun r5 =>
     bnd (x0.1.set n3 (r2.1, y4.2)).length x0.2.2 fun n6 =>
     Option.bind (x0.1.set n3 (r2.1, y4.2))[n6]? fun y7 =>
     bnd ((x0.1.set n3 (r2.1, y4.2)).set n6 (y7.1, r5.1, y7.2.2)).length x0.2.2 fun n8 =>
     Option.bind ((x0.1.set n3 (r2.1, y4.2)).set n6 (y7.1, r5.1, y7.2.2))[n8]? fun y9 =>
     self1 (((x0.1.set n3 (r2.1, y4.2)).set n6 (y7.1, r5.1, y7.2.2)).set n8 (y9.1, y9.2.1, IntKind.wrap .i64 ((IntKind.wrap .i64 (x0.2.1 + (1 : Int))) + (1 : Int))), IntKind.wrap .i64 ((IntKind.wrap .i64 ((IntKind.wrap .i64 (x0.2.1 + (1 : Int))) + (1 : Int))) + (1 : Int)), IntKind.wrap .i64 (x0.2.2 + (1 : Int)))
    else some (x0.1, x0.2.1)) (a0, a1, (0 : Int)) : Option ((List (ByteArray × ByteArray × Int)) × Int)) fun x10 =>
  some (x10.2, x10.1) := by kernel_rfl
/- laws.markDiskS -/
def c_lmarkDiskS : TC :=
 (.seq (.rg [o1 4 (.lit [.i .i64] [.int .i64 (0)])])
 (.seq (.join [⟨0, [.sl [.sl [.s, .s, .i .i64]]], false⟩, ⟨1, [.i .i64], false⟩] 524259 none (.seq (.rg [o1 5 (.lit [.i .i64] [.int .i64 (0)])])
 (.block 0 (.loop [⟨0, [.sl [.sl [.s, .s, .i .i64]]], false⟩, ⟨1, [.i .i64], false⟩, ⟨5, [.i .i64], false⟩] 524259
  (.seq (.seq (.rg [o1 6 (.copy 5),
    ⟨true, [], [], .det 1 (.copy 0), [7], (some 7), none⟩,
    o1 8 (.len 7),
    o1 9 (.data (.bin .lss) [.t 6, .t 8])])
  (.cond (.t 9)
   .skip
   (.exit 0)))
  (.seq (.block 1 (.rg [⟨true, [], [], .det 1 (.copy 0), [12], (some 12), none⟩,
    o1 13 (.copy 5),
    o1 14 (.index 12 (.t 13)),
    o1 15 (.idx (.t 14)),
    o1 16 (.load 0 [(0, 1)] 0 (.t 15) 1 true),
    o1 17 (.copy 1),
    ⟨false, [], [], .call 2 160 [.t 16, .t 17] (.mt 0 [(0, 1)] 0 16 0), [18, 0, 7, 16, 15, 14, 12], (some 18), none⟩,
    o1 1 (.copy 18)]))
  (.rg [o1 10 (.copy 5),
    o1 11 (.data (.bin .add) [.t 10, .c (.int .i64 (1))]),
    o1 5 (.copy 11)])))))))
 (.seq (.rg [o1 19 (.copy 1),
   o1 4 (.copy 19)])
 .ret)))
def s_lmarkDiskS : Sig := ⟨[.mt false [.sl (.own none) [.sl (.own none) [.d, .d, .d]]], .rd false [.d]], (.one false [.d])⟩
noncomputable def E_lmarkDiskS : TEnv := envOf [(160, p_lmarkFileS)]
noncomputable def f_lmarkDiskS (n : Nat) : (List (List (ByteArray × ByteArray × Int))) × Int → Option ((Int) × List (List (ByteArray × ByteArray × Int))) := runFn n E_lmarkDiskS c_lmarkDiskS [[.sl [.sl [.s, .s, .i .i64]]], [.i .i64]] [.i .i64] [.sl [.sl [.s, .s, .i .i64]]] [4] (.mt 0 0 0)
noncomputable def g_lmarkDiskS := f_lmarkDiskS BIG
noncomputable def p_lmarkDiskS : TSp := ⟨s_lmarkDiskS, [[.sl [.sl [.s, .s, .i .i64]]], [.i .i64]], [.i .i64], [.sl [.sl [.s, .s, .i .i64]]], Ou.j (.mt 0 0 0), g_lmarkDiskS⟩
theorem k_lmarkDiskS : chkW PG E_lmarkDiskS 220 s_lmarkDiskS (c_lmarkDiskS.ht 20) (.mt 0 0 0) = some (c_lmarkDiskS.wc E_lmarkDiskS, [4]) := by kernel_rfl
theorem ok_lmarkDiskS : p_lmarkDiskS.Ok PG 220 := mkOk (env_cons ok_lmarkFileS (env_nil PG)) k_lmarkDiskS (by kernel_rfl)
theorem e_lmarkDiskS (n : Nat) (a0 : List ((List (ByteArray × ByteArray × Int)))) (a1 : Int) : f_lmarkDiskS n (a0, a1) =
  Option.bind (loopT n (X := (List ((List (ByteArray × ByteArray × Int)))) × Int × Int) (B := (List ((List (ByteArray × ByteArray × Int)))) × Int) (fun self1 x0 =>
    bif decide (x0.2.2 < (x0.1.length : Int)) then
     bnd x0.1.length x0.2.2 fun n2 =>
     Option.bind x0.1[n2]? fun y3 =>
     Option.bind (g_lmarkFileS (y3, x0.2.1)) fun r4 =>
     Option.bind x0.1[n2]? fun y5 =>
     self1 (x0.1.set n2 r4.2, r4.1, IntKind.wrap .i64 (x0.2.2 + (1 : Int)))
    else some (x0.1, x0.2.1)) (a0, a1, (0 : Int)) : Option ((List ((List (ByteArray × ByteArray × Int)))) × Int)) fun x6 =>
  some (x6.2, x6.1) := by kernel_rfl
/- laws.markBoolS -/
def c_lmarkBoolS : TC :=
 (.seq (.rg [o1 4 (.lit [.i .i64] [.int .i64 (0)])])
 (.seq (.join [⟨0, [.sl [.b]], false⟩, ⟨1, [.i .i64], false⟩] 1048547 none (.seq (.rg [o1 5 (.lit [.i .i64] [.int .i64 (0)])])
 (.block 0 (.loop [⟨0, [.sl [.b]], false⟩, ⟨1, [.i .i64], false⟩, ⟨5, [.i .i64], false⟩] 1048547
  (.seq (.seq (.rg [o1 6 (.copy 5),
    ⟨true, [], [], .det 1 (.copy 0), [7], (some 7), none⟩,
    o1 8 (.len 7),
    o1 9 (.data (.bin .lss) [.t 6, .t 8])])
  (.cond (.t 9)
   .skip
   (.exit 0)))
  (.seq (.block 1 (.seq (.rg [⟨true, [], [], .det 1 (.copy 0), [12], (some 12), none⟩,
    o1 13 (.copy 5),
    o1 14 (.copy 1),
    o1 15 (.data (.bin .rem) [.t 14, .c (.int .i64 (3))]),
    o1 16 (.data (.bin .eql) [.t 15, .c (.int .i64 (0))]),
    o1 17 (.index 12 (.t 13)),
    o4 1 [0, 7, 12] (.store 0 [(0, 1)] 0 (.t 17) (.t 16))])
  (.rg [o1 18 (.copy 1),
    o1 19 (.data (.bin .add) [.t 18, .c (.int .i64 (1))]),
    o1 1 (.copy 19)])))
  (.rg [o1 10 (.copy 5),
    o1 11 (.data (.bin .add) [.t 10, .c (.int .i64 (1))]),
    o1 5 (.copy 11)])))))))
 (.seq (.rg [o1 20 (.copy 1),
   o1 4 (.copy 20)])
 .ret)))
def s_lmarkBoolS : Sig := ⟨[.mt false [.sl (.own none) [.d]], .rd false [.d]], (.one false [.d])⟩
noncomputable def E_lmarkBoolS : TEnv := envOf []
noncomputable def f_lmarkBoolS (n : Nat) : List (Bool) × Int → Option ((Int) × List (Bool)) := runFn n E_lmarkBoolS c_lmarkBoolS [[.sl [.b]], [.i .i64]] [.i .i64] [.sl [.b]] [4] (.mt 0 0 0)
noncomputable def g_lmarkBoolS := f_lmarkBoolS BIG
noncomputable def p_lmarkBoolS : TSp := ⟨s_lmarkBoolS, [[.sl [.b]], [.i .i64]], [.i .i64], [.sl [.b]], Ou.j (.mt 0 0 0), g_lmarkBoolS⟩
theorem k_lmarkBoolS : chkW PG E_lmarkBoolS 221 s_lmarkBoolS (c_lmarkBoolS.ht 21) (.mt 0 0 0) = some (c_lmarkBoolS.wc E_lmarkBoolS, [4]) := by kernel_rfl
theorem ok_lmarkBoolS : p_lmarkBoolS.Ok PG 221 := mkOk (env_nil PG) k_lmarkBoolS (by kernel_rfl)
theorem e_lmarkBoolS (n : Nat) (a0 : List (Bool)) (a1 : Int) : f_lmarkBoolS n (a0, a1) =
  Option.bind (loopT n (X := (List (Bool)) × Int × Int) (B := (List (Bool)) × Int) (fun self1 x0 =>
    bif decide (x0.2.2 < (x0.1.length : Int)) then
     bif decide ((3 : Int) = 0) then
      none
     else bnd x0.1.length x0.2.2 fun n2 =>
     Option.bind x0.1[n2]? fun y3 =>
     self1 (x0.1.set n2 (decide ((Int.tmod x0.2.1 (3 : Int)) = (0 : Int))), IntKind.wrap .i64 (x0.2.1 + (1 : Int)), IntKind.wrap .i64 (x0.2.2 + (1 : Int)))
    else some (x0.1, x0.2.1)) (a0, a1, (0 : Int)) : Option ((List (Bool)) × Int)) fun x4 =>
  some (x4.2, x4.1) := by kernel_rfl
/- laws.markPacketS -/
def c_lmarkPacketS : TC :=
 (.seq (.rg [o1 4 (.lit [.i .i64] [.int .i64 (0)])])
 (.seq (.join [⟨0, [.sl [.i .i64, .i .i64, .s]], false⟩, ⟨1, [.i .i64], false⟩] 17179869155 none (.seq (.rg [o1 5 (.lit [.i .i64] [.int .i64 (0)])])
 (.block 0 (.loop [⟨0, [.sl [.i .i64, .i .i64, .s]], false⟩, ⟨1, [.i .i64], false⟩, ⟨5, [.i .i64], false⟩] 17179869155
  (.seq (.seq (.rg [o1 6 (.copy 5),
    ⟨true, [], [], .det 1 (.copy 0), [7], (some 7), none⟩,
    o1 8 (.len 7),
    o1 9 (.data (.bin .lss) [.t 6, .t 8])])
  (.cond (.t 9)
   .skip
   (.exit 0)))
  (.seq (.block 1 (.seq (.rg [⟨true, [], [], .det 1 (.copy 0), [12], (some 12), none⟩,
    o1 13 (.copy 5),
    o1 14 (.copy 1),
    o1 15 (.index 12 (.t 13)),
    o1 16 (.idx (.t 15)),
    o4 1 [0, 7, 12] (.store 0 [(0, 3)] 0 (.t 16) (.t 14))])
  (.seq (.rg [o1 17 (.copy 1),
    o1 18 (.data (.bin .add) [.t 17, .c (.int .i64 (1))]),
    o1 1 (.copy 18)])
  (.seq (.rg [⟨true, [], [], .det 1 (.copy 0), [19], (some 19), none⟩,
    o1 20 (.copy 5),
    o1 21 (.copy 1),
    o1 22 (.index 19 (.t 20)),
    o1 23 (.idx (.t 22)),
    o4 1 [0, 19] (.store 0 [(0, 3)] 1 (.t 23) (.t 21))])
  (.seq (.rg [o1 24 (.copy 1),
    o1 25 (.data (.bin .add) [.t 24, .c (.int .i64 (1))]),
    o1 1 (.copy 25)])
  (.seq (.rg [⟨true, [], [], .det 1 (.copy 0), [26], (some 26), none⟩,
    o1 27 (.copy 5),
    o1 28 (.copy 1),
    o3 29 161 [.t 28],
    o1 30 (.index 26 (.t 27)),
    o1 31 (.idx (.t 30)),
    o4 1 [0, 26] (.store 0 [(0, 3)] 2 (.t 31) (.t 29))])
  (.rg [o1 32 (.copy 1),
    o1 33 (.data (.bin .add) [.t 32, .c (.int .i64 (1))]),
    o1 1 (.copy 33)])))))))
  (.rg [o1 10 (.copy 5),
    o1 11 (.data (.bin .add) [.t 10, .c (.int .i64 (1))]),
    o1 5 (.copy 11)])))))))
 (.seq (.rg [o1 34 (.copy 1),
   o1 4 (.copy 34)])
 .ret)))
def s_lmarkPacketS : Sig := ⟨[.mt false [.sl (.own none) [.d, .d, .d]], .rd false [.d]], (.one false [.d])⟩
noncomputable def E_lmarkPacketS : TEnv := envOf [(161, p_lmarkText)]
noncomputable def f_lmarkPacketS (n : Nat) : (List (Int × Int × ByteArray)) × Int → Option ((Int) × List (Int × Int × ByteArray)) := runFn n E_lmarkPacketS c_lmarkPacketS [[.sl [.i .i64, .i .i64, .s]], [.i .i64]] [.i .i64] [.sl [.i .i64, .i .i64, .s]] [4] (.mt 0 0 0)
noncomputable def g_lmarkPacketS := f_lmarkPacketS BIG
noncomputable def p_lmarkPacketS : TSp := ⟨s_lmarkPacketS, [[.sl [.i .i64, .i .i64, .s]], [.i .i64]], [.i .i64], [.sl [.i .i64, .i .i64, .s]], Ou.j (.mt 0 0 0), g_lmarkPacketS⟩
theorem k_lmarkPacketS : chkW PG E_lmarkPacketS 222 s_lmarkPacketS (c_lmarkPacketS.ht 35) (.mt 0 0 0) = some (c_lmarkPacketS.wc E_lmarkPacketS, [4]) := by kernel_rfl
theorem ok_lmarkPacketS : p_lmarkPacketS.Ok PG 222 := mkOk (env_cons ok_lmarkText (env_nil PG)) k_lmarkPacketS (by kernel_rfl)
theorem e_lmarkPacketS (n : Nat) (a0 : List (Int × Int × ByteArray)) (a1 : Int) : f_lmarkPacketS n (a0, a1) =
  Option.bind (loopT n (X := (List (Int × Int × ByteArray)) × Int × Int) (B := (List (Int × Int × ByteArray)) × Int) (fun self1 x0 =>
    bif decide (x0.2.2 < (x0.1.length : Int)) then
     bnd x0.1.length x0.2.2 fun n2 =>
     Option.bind x0.1[n2]? fun y3 =>
     bnd (x0.1.set n2 (x0.2.1, y3.2)).length x0.2.2 fun n4 =>
     Option.bind (x0.1.set n2 (x0.2.1, y3.2))[n4]? fun y5 =>
     Option.bind (g_lmarkText (IntKind.wrap .i64 ((IntKind.wrap .i64 (x0.2.1 + (1 : Int))) + (1 : Int)))) fun r6 =>
     bnd ((x0.1.set n2 (x0.2.1, y3.2)).set n4 (y5.1, IntKind.wrap .i64 (x0.2.1 + (1 : Int)), y5.2.2)).length x0.2.2 fun n7 =>
     Option.bind ((x0.1.set n2 (x0.2.1, y3.2)).set n4 (y5.1, IntKind.wrap .i64 (x0.2.1 + (1 : Int)), y5.2.2))[n7]? fun y8 =>
     self1 (((x0.1.set n2 (x0.2.1, y3.2)).set n4 (y5.1, IntKind.wrap .i64 (x0.2.1 + (1 : Int)), y5.2.2)).set n7 (y8.1, y8.2.1, r6.1), IntKind.wrap .i64 ((IntKind.wrap .i64 ((IntKind.wrap .i64 (x0.2.1 + (1 : Int))) + (1 : Int))) + (1 : Int)), IntKind.wrap .i64 (x0.2.2 + (1 : Int)))
    else some (x0.1, x0.2.1)) (a0, a1, (0 : Int)) : Option ((List (Int × Int × ByteArray)) × Int)) fun x9 =>
  some (x9.2, x9.1) := by kernel_rfl
/- laws.markCallS -/
def c_lmarkCallS : TC :=
 (.seq (.rg [o1 4 (.lit [.i .i64] [.int .i64 (0)])])
 (.seq (.join [⟨0, [.sl [.i .i64, .i .i64, .i .i64, .i .i64, .i .i64, .i .i64, .i .i64]], false⟩, ⟨1, [.i .i64], false⟩] 36893488147419103203 none (.seq (.rg [o1 5 (.lit [.i .i64] [.int .i64 (0)])])
 (.block 0 (.loop [⟨0, [.sl [.i .i64, .i .i64, .i .i64, .i .i64, .i .i64, .i .i64, .i .i64]], false⟩, ⟨1, [.i .i64], false⟩, ⟨5, [.i .i64], false⟩] 36893488147419103203
  (.seq (.seq (.rg [o1 6 (.copy 5),
    ⟨true, [], [], .det 1 (.copy 0), [7], (some 7), none⟩,
    o1 8 (.len 7),
    o1 9 (.data (.bin .lss) [.t 6, .t 8])])
  (.cond (.t 9)
   .skip
   (.exit 0)))
  (.seq (.block 1 (.seq (.rg [⟨true, [], [], .det 1 (.copy 0), [12], (some 12), none⟩,
    o1 13 (.copy 5),
    o1 14 (.copy 1),
    o1 15 (.index 12 (.t 13)),
    o1 16 (.idx (.t 15)),
    o1 17 (.idx (.t 16)),
    o4 1 [0, 7, 12] (.store 0 [(0, 7)] 0 (.t 17) (.t 14))])
  (.seq (.rg [o1 18 (.copy 1),
    o1 19 (.data (.bin .add) [.t 18, .c (.int .i64 (1))]),
    o1 1 (.copy 19)])
  (.seq (.rg [⟨true, [], [], .det 1 (.copy 0), [20], (some 20), none⟩,
    o1 21 (.copy 5),
    o1 22 (.copy 1),
    o1 23 (.index 20 (.t 21)),
    o1 24 (.idx (.t 23)),
    o1 25 (.idx (.t 24)),
    o4 1 [0, 20] (.store 0 [(0, 7)] 1 (.t 25) (.t 22))])
  (.seq (.rg [o1 26 (.copy 1),
    o1 27 (.data (.bin .add) [.t 26, .c (.int .i64 (1))]),
    o1 1 (.copy 27)])
  (.seq (.rg [⟨true, [], [], .det 1 (.copy 0), [28], (some 28), none⟩,
    o1 29 (.copy 5),
    o1 30 (.copy 1),
    o1 31 (.index 28 (.t 29)),
    o1 32 (.idx (.t 31)),
    o1 33 (.idx (.t 32)),
    o4 1 [0, 28] (.store 0 [(0, 7)] 2 (.t 33) (.t 30))])
  (.seq (.rg [o1 34 (.copy 1),
    o1 35 (.data (.bin .add) [.t 34, .c (.int .i64 (1))]),
    o1 1 (.copy 35)])
  (.seq (.rg [⟨true, [], [], .det 1 (.copy 0), [36], (some 36), none⟩,
    o1 37 (.copy 5),
    o1 38 (.copy 1),
    o1 39 (.index 36 (.t 37)),
    o1 40 (.idx (.t 39)),
    o1 41 (.idx (.t 40)),
    o4 1 [0, 36] (.store 0 [(0, 7)] 3 (.t 41) (.t 38))])
  (.seq (.rg [o1 42 (.copy 1),
    o1 43 (.data (.bin .add) [.t 42, .c (.int .i64 (1))]),
    o1 1 (.copy 43)])
  (.seq (.rg [⟨true, [], [], .det 1 (.copy 0), [44], (some 44), none⟩,
    o1 45 (.copy 5),
    o1 46 (.copy 1),
    o1 47 (.index 44 (.t 45)),
    o1 48 (.idx (.t 47)),
    o4 1 [0, 44] (.store 0 [(0, 7)] 4 (.t 48) (.t 46))])
  (.seq (.rg [o1 49 (.copy 1),
    o1 50 (.data (.bin .add) [.t 49, .c (.int .i64 (1))]),
    o1 1 (.copy 50)])
  (.seq (.rg [⟨true, [], [], .det 1 (.copy 0), [51], (some 51), none⟩,
    o1 52 (.copy 5),
    o1 53 (.copy 1),
    o1 54 (.index 51 (.t 52)),
    o1 55 (.idx (.t 54)),
    o4 1 [0, 51] (.store 0 [(0, 7)] 5 (.t 55) (.t 53))])
  (.seq (.rg [o1 56 (.copy 1),
    o1 57 (.data (.bin .add) [.t 56, .c (.int .i64 (1))]),
    o1 1 (.copy 57)])
  (.seq (.rg [⟨true, [], [], .det 1 (.copy 0), [58], (some 58), none⟩,
    o1 59 (.copy 5),
    o1 60 (.copy 1),
    o1 61 (.index 58 (.t 59)),
    o1 62 (.idx (.t 61)),
    o4 1 [0, 58] (.store 0 [(0, 7)] 6 (.t 62) (.t 60))])
  (.rg [o1 63 (.copy 1),
    o1 64 (.data (.bin .add) [.t 63, .c (.int .i64 (1))]),
    o1 1 (.copy 64)])))))))))))))))
  (.rg [o1 10 (.copy 5),
    o1 11 (.data (.bin .add) [.t 10, .c (.int .i64 (1))]),
    o1 5 (.copy 11)])))))))
 (.seq (.rg [o1 65 (.copy 1),
   o1 4 (.copy 65)])
 .ret)))
def s_lmarkCallS : Sig := ⟨[.mt false [.sl (.own none) [.d, .d, .d, .d, .d, .d, .d]], .rd false [.d]], (.one false [.d])⟩
noncomputable def E_lmarkCallS : TEnv := envOf []
noncomputable def f_lmarkCallS (n : Nat) : (List (Int × Int × Int × Int × Int × Int × Int)) × Int → Option ((Int) × List (Int × Int × Int × Int × Int × Int × Int)) := runFn n E_lmarkCallS c_lmarkCallS [[.sl [.i .i64, .i .i64, .i .i64, .i .i64, .i .i64, .i .i64, .i .i64]], [.i .i64]] [.i .i64] [.sl [.i .i64, .i .i64, .i .i64, .i .i64, .i .i64, .i .i64, .i .i64]] [4] (.mt 0 0 0)
noncomputable def g_lmarkCallS := f_lmarkCallS BIG
noncomputable def p_lmarkCallS : TSp := ⟨s_lmarkCallS, [[.sl [.i .i64, .i .i64, .i .i64, .i .i64, .i .i64, .i .i64, .i .i64]], [.i .i64]], [.i .i64], [.sl [.i .i64, .i .i64, .i .i64, .i .i64, .i .i64, .i .i64, .i .i64]], Ou.j (.mt 0 0 0), g_lmarkCallS⟩
theorem k_lmarkCallS : chkW PG E_lmarkCallS 223 s_lmarkCallS (c_lmarkCallS.ht 66) (.mt 0 0 0) = some (c_lmarkCallS.wc E_lmarkCallS, [4]) := by kernel_rfl
theorem ok_lmarkCallS : p_lmarkCallS.Ok PG 223 := mkOk (env_nil PG) k_lmarkCallS (by kernel_rfl)
theorem e_lmarkCallS (n : Nat) (a0 : List (Int × Int × Int × Int × Int × Int × Int)) (a1 : Int) : f_lmarkCallS n (a0, a1) =
  Option.bind (loopT n (X := (List (Int × Int × Int × Int × Int × Int × Int)) × Int × Int) (B := (List (Int × Int × Int × Int × Int × Int × Int)) × Int) (fun self1 x0 =>
    bif decide (x0.2.2 < (x0.1.length : Int)) then
     bnd x0.1.length x0.2.2 fun n2 =>
     Option.bind x0.1[n2]? fun y3 =>
     bnd (x0.1.set n2 (x0.2.1, y3.2)).length x0.2.2 fun n4 =>
     Option.bind (x0.1.set n2 (x0.2.1, y3.2))[n4]? fun y5 =>
     bnd ((x0.1.set n2 (x0.2.1, y3.2)).set n4 (y5.1, IntKind.wrap .i64 (x0.2.1 + (1 : Int)), y5.2.2)).length x0.2.2 fun n6 =>
     Option.bind ((x0.1.set n2 (x0.2.1, y3.2)).set n4 (y5.1, IntKind.wrap .i64 (x0.2.1 + (1 : Int)), y5.2.2))[n6]? fun y7 =>
     bnd (((x0.1.set n2 (x0.2.1, y3.2)).set n4 (y5.1, IntKind.wrap .i64 (x0.2.1 + (1 : Int)), y5.2.2)).set n6 (y7.1, y7.2.1, IntKind.wrap .i64 ((IntKind.wrap .i64 (x0.2.1 + (1 : Int))) + (1 : Int)), y7.2.2.2)).length x0.2.2 fun n8 =>
     Option.bind (((x0.1.set n2 (x0.2.1, y3.2)).set n4 (y5.1, IntKind.wrap .i64 (x0.2.1 + (1 : Int)), y5.2.2)).set n6 (y7.1, y7.2.1, IntKind.wrap .i64 ((IntKind.wrap .i64 (x0.2.1 + (1 : Int))) + (1 : Int)), y7.2.2.2))[n8]? fun y9 =>
     bnd ((((x0.1.set n2 (x0.2.1, y3.2)).set n4 (y5.1, IntKind.wrap .i64 (x0.2.1 + (1 : Int)), y5.2.2)).set n6 (y7.1, y7.2.1, IntKind.wrap .i64 ((IntKind.wrap .i64 (x0.2.1 + (1 : Int))) + (1 : Int)), y7.2.2.2)).set n8 (y9.1, y9.2.1, y9.2.2.1, IntKind.wrap .i64 ((IntKind.wrap .i64 ((IntKind.wrap .i64 (x0.2.1 + (1 : Int))) + (1 : Int))) + (1 : Int)), y9.2.2.2.2)).length x0.2.2 fun n10 =>
     Option.bind ((((x0.1.set n2 (x0.2.1, y3.2)).set n4 (y5.1, IntKind.wrap .i64 (x0.2.1 + (1 : Int)), y5.2.2)).set n6 (y7.1, y7.2.1, IntKind.wrap .i64 ((IntKind.wrap .i64 (x0.2.1 + (1 : Int))) + (1 : Int)), y7.2.2.2)).set n8 (y9.1, y9.2.1, y9.2.2.1, IntKind.wrap .i64 ((IntKind.wrap .i64 ((IntKind.wrap .i64 (x0.2.1 + (1 : Int))) + (1 : Int))) + (1 : Int)), y9.2.2.2.2))[n10]? fun y11 =>
     bnd (((((x0.1.set n2 (x0.2.1, y3.2)).set n4 (y5.1, IntKind.wrap .i64 (x0.2.1 + (1 : Int)), y5.2.2)).set n6 (y7.1, y7.2.1, IntKind.wrap .i64 ((IntKind.wrap .i64 (x0.2.1 + (1 : Int))) + (1 : Int)), y7.2.2.2)).set n8 (y9.1, y9.2.1, y9.2.2.1, IntKind.wrap .i64 ((IntKind.wrap .i64 ((IntKind.wrap .i64 (x0.2.1 + (1 : Int))) + (1 : Int))) + (1 : Int)), y9.2.2.2.2)).set n10 (y11.1, y11.2.1, y11.2.2.1, y11.2.2.2.1, IntKind.wrap .i64 ((IntKind.wrap .i64 ((IntKind.wrap .i64 ((IntKind.wrap .i64 (x0.2.1 + (1 : Int))) + (1 : Int))) + (1 : Int))) + (1 : Int)), y11.2.2.2.2.2)).length x0.2.2 fun n12 =>
     Option.bind (((((x0.1.set n2 (x0.2.1, y3.2)).set n4 (y5.1, IntKind.wrap .i64 (x0.2.1 + (1 : Int)), y5.2.2)).set n6 (y7.1, y7.2.1, IntKind.wrap .i64 ((IntKind.wrap .i64 (x0.2.1 + (1 : Int))) + (1 : Int)), y7.2.2.2)).set n8 (y9.1, y9.2.1, y9.2.2.1, IntKind.wrap .i64 ((IntKind.wrap .i64 ((IntKind.wrap .i64 (x0.2.1 + (1 : Int))) + (1 : Int))) + (1 : Int)), y9.2.2.2.2)).set n10 (y11.1, y11.2.1, y11.2.2.1, y11.2.2.2.1, IntKind.wrap .i64 ((IntKind.wrap .i64 ((IntKind.wrap .i64 ((IntKind.wrap .i64 (x0.2.1 + (1 : Int))) + (1 : Int))) + (1 : Int))) + (1 : Int)), y11.2.2.2.2.2))[n12]? fun y13 =>
     bnd ((((((x0.1.set n2 (x0.2.1, y3.2)).set n4 (y5.1, IntKind.wrap .i64 (x0.2.1 + (1 : Int)), y5.2.2)).set n6 (y7.1, y7.2.1, IntKind.wrap .i64 ((IntKind.wrap .i64 (x0.2.1 + (1 : Int))) + (1 : Int)), y7.2.2.2)).set n8 (y9.1, y9.2.1, y9.2.2.1, IntKind.wrap .i64 ((IntKind.wrap .i64 ((IntKind.wrap .i64 (x0.2.1 + (1 : Int))) + (1 : Int))) + (1 : Int)), y9.2.2.2.2)).set n10 (y11.1, y11.2.1, y11.2.2.1, y11.2.2.2.1, IntKind.wrap .i64 ((IntKind.wrap .i64 ((IntKind.wrap .i64 ((IntKind.wrap .i64 (x0.2.1 + (1 : Int))) + (1 : Int))) + (1 : Int))) + (1 : Int)), y11.2.2.2.2.2)).set n12 (y13.1, y13.2.1, y13.2.2.1, y13.2.2.2.1, y13.2.2.2.2.1, IntKind.wrap .i64 ((IntKind.wrap .i64 ((IntKind.wrap .i64 ((IntKind.wrap .i64 ((IntKind.wrap .i64 (x0.2.1 + (1 : Int))) + (1 : Int))) + (1 : Int))) + (1 : Int))) + (1 : Int)), y13.2.2.2.2.2.2)).length x0.2.2 fun n14 =>
     Option.bind ((((((x0.1.set n2 (x0.2.1, y3.2)).set n4 (y5.1, IntKind.wrap .i64 (x0.2.1 + (1 : Int)), y5.2.2)).set n6 (y7.1, y7.2.1, IntKind.wrap .i64 ((IntKind.wrap .i64 (x0.2.1 + (1 : Int))) + (1 : Int)), y7.2.2.2)).set n8 (y9.1, y9.2.1, y9.2.2.1, IntKind.wrap .i64 ((IntKind.wrap .i64 ((IntKind.wrap .i64 (x0.2.1 + (1 : Int))) + (1 : Int))) + (1 : Int)), y9.2.2.2.2)).set n10 (y11.1, y11.2.1, y11.2.2.1, y11.2.2.2.1, IntKind.wrap .i64 ((IntKind.wrap .i64 ((IntKind.wrap .i64 ((IntKind.wrap .i64 (x0.2.1 + (1 : Int))) + (1 : Int))) + (1 : Int))) + (1 : Int)), y11.2.2.2.2.2)).set n12 (y13.1, y13.2.1, y13.2.2.1, y13.2.2.2.1, y13.2.2.2.2.1, IntKind.wrap .i64 ((IntKind.wrap .i64 ((IntKind.wrap .i64 ((IntKind.wrap .i64 ((IntKind.wrap .i64 (x0.2.1 + (1 : Int))) + (1 : Int))) + (1 : Int))) + (1 : Int))) + (1 : Int)), y13.2.2.2.2.2.2))[n14]? fun y15 =>
     self1 (((((((x0.1.set n2 (x0.2.1, y3.2)).set n4 (y5.1, IntKind.wrap .i64 (x0.2.1 + (1 : Int)), y5.2.2)).set n6 (y7.1, y7.2.1, IntKind.wrap .i64 ((IntKind.wrap .i64 (x0.2.1 + (1 : Int))) + (1 : Int)), y7.2.2.2)).set n8 (y9.1, y9.2.1, y9.2.2.1, IntKind.wrap .i64 ((IntKind.wrap .i64 ((IntKind.wrap .i64 (x0.2.1 + (1 : Int))) + (1 : Int))) + (1 : Int)), y9.2.2.2.2)).set n10 (y11.1, y11.2.1, y11.2.2.1, y11.2.2.2.1, IntKind.wrap .i64 ((IntKind.wrap .i64 ((IntKind.wrap .i64 ((IntKind.wrap .i64 (x0.2.1 + (1 : Int))) + (1 : Int))) + (1 : Int))) + (1 : Int)), y11.2.2.2.2.2)).set n12 (y13.1, y13.2.1, y13.2.2.1, y13.2.2.2.1, y13.2.2.2.2.1, IntKind.wrap .i64 ((IntKind.wrap .i64 ((IntKind.wrap .i64 ((IntKind.wrap .i64 ((IntKind.wrap .i64 (x0.2.1 + (1 : Int))) + (1 : Int))) + (1 : Int))) + (1 : Int))) + (1 : Int)), y13.2.2.2.2.2.2)).set n14 (y15.1, y15.2.1, y15.2.2.1, y15.2.2.2.1, y15.2.2.2.2.1, y15.2.2.2.2.2.1, IntKind.wrap .i64 ((IntKind.wrap .i64 ((IntKind.wrap .i64 ((IntKind.wrap .i64 ((IntKind.wrap .i64 ((IntKind.wrap .i64 (x0.2.1 + (1 : Int))) + (1 : Int))) + (1 : Int))) + (1 : Int))) + (1 : Int))) + (1 : Int))), IntKind.wrap .i64 ((IntKind.wrap .i64 ((IntKind.wrap .i64 ((IntKind.wrap .i64 ((IntKind.wrap .i64 ((IntKind.wrap .i64 ((IntKind.wrap .i64 (x0.2.1 + (1 : Int))) + (1 : Int))) + (1 : Int))) + (1 : Int))) + (1 : Int))) + (1 : Int))) + (1 : Int)), IntKind.wrap .i64 (x0.2.2 + (1 : Int)))
    else some (x0.1, x0.2.1)) (a0, a1, (0 : Int)) : Option ((List (Int × Int × Int × Int × Int × Int × Int)) × Int)) fun x16 =>
  some (x16.2, x16.1) := by kernel_rfl
/- laws.markRecS -/
def c_lmarkRecS : TC :=
 (.seq (.rg [o1 4 (.lit [.i .i64] [.int .i64 (0)])])
 (.seq (.join [⟨0, [.sl [.i .i64, .i .i64, .i .i64, .i .i64, .i .i64, .i .i64, .i .i64, .b, .sl [.i .i64, .i .i64], .sl [.i .i64], .i .i64, .i .i64, .sl [.i .i64, .i .i64], .i .i64]], false⟩, ⟨1, [.i .i64], false⟩] 21267647932558653966460912964485513187 none (.seq (.rg [o1 5 (.lit [.i .i64] [.int .i64 (0)])])
 (.block 0 (.loop [⟨0, [.sl [.i .i64, .i .i64, .i .i64, .i .i64, .i .i64, .i .i64, .i .i64, .b, .sl [.i .i64, .i .i64], .sl [.i .i64], .i .i64, .i .i64, .sl [.i .i64, .i .i64], .i .i64]], false⟩, ⟨1, [.i .i64], false⟩, ⟨5, [.i .i64], false⟩] 21267647932558653966460912964485513187
  (.seq (.seq (.rg [o1 6 (.copy 5),
    ⟨true, [], [], .det 1 (.copy 0), [7], (some 7), none⟩,
    o1 8 (.len 7),
    o1 9 (.data (.bin .lss) [.t 6, .t 8])])
  (.cond (.t 9)
   .skip
   (.exit 0)))
  (.seq (.block 1 (.seq (.rg [⟨true, [], [], .det 1 (.copy 0), [12], (some 12), none⟩,
    o1 13 (.copy 5),
    o1 14 (.copy 1),
    o1 15 (.index 12 (.t 13)),
    o1 16 (.idx (.t 15)),
    o4 1 [0, 7, 12] (.store 0 [(0, 14)] 0 (.t 16) (.t 14))])
  (.seq (.rg [o1 17 (.copy 1),
    o1 18 (.data (.bin .add) [.t 17, .c (.int .i64 (1))]),
    o1 1 (.copy 18)])
  (.seq (.rg [⟨true, [], [], .det 1 (.copy 0), [19], (some 19), none⟩,
    o1 20 (.copy 5),
    o1 21 (.copy 1),
    o1 22 (.index 19 (.t 20)),
    o1 23 (.idx (.t 22)),
    o1 24 (.idx (.t 23)),
    o4 1 [0, 19] (.store 0 [(0, 14)] 1 (.t 24) (.t 21))])
  (.seq (.rg [o1 25 (.copy 1),
    o1 26 (.data (.bin .add) [.t 25, .c (.int .i64 (1))]),
    o1 1 (.copy 26)])
  (.seq (.rg [⟨true, [], [], .det 1 (.copy 0), [27], (some 27), none⟩,
    o1 28 (.copy 5),
    o1 29 (.copy 1),
    o1 30 (.index 27 (.t 28)),
    o1 31 (.idx (.t 30)),
    o1 32 (.idx (.t 31)),
    o4 1 [0, 27] (.store 0 [(0, 14)] 2 (.t 32) (.t 29))])
  (.seq (.rg [o1 33 (.copy 1),
    o1 34 (.data (.bin .add) [.t 33, .c (.int .i64 (1))]),
    o1 1 (.copy 34)])
  (.seq (.rg [⟨true, [], [], .det 1 (.copy 0), [35], (some 35), none⟩,
    o1 36 (.copy 5),
    o1 37 (.copy 1),
    o1 38 (.index 35 (.t 36)),
    o1 39 (.idx (.t 38)),
    o1 40 (.idx (.t 39)),
    o4 1 [0, 35] (.store 0 [(0, 14)] 3 (.t 40) (.t 37))])
  (.seq (.rg [o1 41 (.copy 1),
    o1 42 (.data (.bin .add) [.t 41, .c (.int .i64 (1))]),
    o1 1 (.copy 42)])
  (.seq (.rg [⟨true, [], [], .det 1 (.copy 0), [43], (some 43), none⟩,
    o1 44 (.copy 5),
    o1 45 (.copy 1),
    o1 46 (.index 43 (.t 44)),
    o1 47 (.idx (.t 46)),
    o1 48 (.idx (.t 47)),
    o4 1 [0, 43] (.store 0 [(0, 14)] 4 (.t 48) (.t 45))])
  (.seq (.rg [o1 49 (.copy 1),
    o1 50 (.data (.bin .add) [.t 49, .c (.int .i64 (1))]),
    o1 1 (.copy 50)])
  (.seq (.rg [⟨true, [], [], .det 1 (.copy 0), [51], (some 51), none⟩,
    o1 52 (.copy 5),
    o1 53 (.copy 1),
    o1 54 (.index 51 (.t 52)),
    o1 55 (.idx (.t 54)),
    o4 1 [0, 51] (.store 0 [(0, 14)] 5 (.t 55) (.t 53))])
  (.seq (.rg [o1 56 (.copy 1),
    o1 57 (.data (.bin .add) [.t 56, .c (.int .i64 (1))]),
    o1 1 (.copy 57)])
  (.seq (.rg [⟨true, [], [], .det 1 (.copy 0), [58], (some 58), none⟩,
    o1 59 (.copy 5),
    o1 60 (.copy 1),
    o1 61 (.index 58 (.t 59)),
    o1 62 (.idx (.t 61)),
    o1 63 (.idx (.t 62)),
    o4 1 [0, 58] (.store 0 [(0, 14)] 6 (.t 63) (.t 60))])
  (.seq (.rg [o1 64 (.copy 1),
    o1 65 (.data (.bin .add) [.t 64, .c (.int .i64 (1))]),
    o1 1 (.copy 65)])
  (.seq (.rg [⟨true, [], [], .det 1 (.copy 0), [66], (some 66), none⟩,
    o1 67 (.copy 5),
    o1 68 (.copy 1),
    o1 69 (.data (.bin .rem) [.t 68, .c (.int .i64 (3))]),
    o1 70 (.data (.bin .eql) [.t 69, .c (.int .i64 (0))]),
    o1 71 (.index 66 (.t 67)),
    o1 72 (.idx (.t 71)),
    o1 73 (.idx (.t 72)),
    o4 1 [0, 66] (.store 0 [(0, 14)] 7 (.t 73) (.t 70))])
  (.seq (.rg [o1 74 (.copy 1),
    o1 75 (.data (.bin .add) [.t 74, .c (.int .i64 (1))]),
    o1 1 (.copy 75)])
  (.seq (.rg [⟨true, [], [], .det 1 (.copy 0), [76], (some 76), none⟩,
    o1 77 (.copy 5),
    o1 78 (.index 76 (.t 77)),
    o1 79 (.idx (.t 78)),
    o1 80 (.idx (.t 79)),
    o1 81 (.load 0 [(0, 14)] 8 (.t 80) 1 true),
    o1 82 (.copy 1),
    ⟨false, [], [], .call 2 146 [.t 81, .t 82] (.mt 0 [(0, 14)] 8 81 0), [83, 0, 15, 16, 22, 23, 24, 30, 31, 32, 38, 39, 40, 46, 47, 48, 54, 55, 61, 62, 63, 71, 72, 73, 81, 80, 79, 78, 76], (some 83), none⟩,
    o1 1 (.copy 83)])
  (.seq (.rg [⟨true, [], [], .det 1 (.copy 0), [84], (some 84), none⟩,
    o1 85 (.copy 5),
    o1 86 (.index 84 (.t 85)),
    o1 87 (.idx (.t 86)),
    o1 88 (.idx (.t 87)),
    o1 89 (.load 0 [(0, 14)] 9 (.t 88) 1 true),
    o1 90 (.copy 1),
    ⟨false, [], [], .call 2 147 [.t 89, .t 90] (.mt 0 [(0, 14)] 9 89 0), [91, 0, 89, 88, 87, 86, 84], (some 91), none⟩,
    o1 1 (.copy 91)])
  (.seq (.rg [⟨true, [], [], .det 1 (.copy 0), [92], (some 92), none⟩,
    o1 93 (.copy 5),
    o1 94 (.copy 1),
    o1 95 (.index 92 (.t 93)),
    o1 96 (.idx (.t 95)),
    o1 97 (.idx (.t 96)),
    o4 1 [0, 92] (.store 0 [(0, 14)] 10 (.t 97) (.t 94))])
  (.seq (.rg [o1 98 (.copy 1),
    o1 99 (.data (.bin .add) [.t 98, .c (.int .i64 (1))]),
    o1 1 (.copy 99)])
  (.seq (.rg [⟨true, [], [], .det 1 (.copy 0), [100], (some 100), none⟩,
    o1 101 (.copy 5),
    o1 102 (.copy 1),
    o1 103 (.index 100 (.t 101)),
    o1 104 (.idx (.t 103)),
    o1 105 (.idx (.t 104)),
    o4 1 [0, 100] (.store 0 [(0, 14)] 11 (.t 105) (.t 102))])
  (.seq (.rg [o1 106 (.copy 1),
    o1 107 (.data (.bin .add) [.t 106, .c (.int .i64 (1))]),
    o1 1 (.copy 107)])
  (.seq (.rg [⟨true, [], [], .det 1 (.copy 0), [108], (some 108), none⟩,
    o1 109 (.copy 5),
    o1 110 (.index 108 (.t 109)),
    o1 111 (.idx (.t 110)),
    o1 112 (.idx (.t 111)),
    o1 113 (.load 0 [(0, 14)] 12 (.t 112) 1 true),
    o1 114 (.copy 1),
    ⟨false, [], [], .call 2 146 [.t 113, .t 114] (.mt 0 [(0, 14)] 12 113 0), [115, 0, 95, 96, 97, 103, 104, 105, 113, 112, 111, 110, 108], (some 115), none⟩,
    o1 1 (.copy 115)])
  (.seq (.rg [⟨true, [], [], .det 1 (.copy 0), [116], (some 116), none⟩,
    o1 117 (.copy 5),
    o1 118 (.copy 1),
    o1 119 (.index 116 (.t 117)),
    o1 120 (.idx (.t 119)),
    o1 121 (.idx (.t 120)),
    o4 1 [0, 116] (.store 0 [(0, 14)] 13 (.t 121) (.t 118))])
  (.rg [o1 122 (.copy 1),
    o1 123 (.data (.bin .add) [.t 122, .c (.int .i64 (1))]),
    o1 1 (.copy 123)]))))))))))))))))))))))))))
  (.rg [o1 10 (.copy 5),
    o1 11 (.data (.bin .add) [.t 10, .c (.int .i64 (1))]),
    o1 5 (.copy 11)])))))))
 (.seq (.rg [o1 124 (.copy 1),
   o1 4 (.copy 124)])
 .ret)))
def s_lmarkRecS : Sig := ⟨[.mt false [.sl (.own none) [.d, .d, .d, .d, .d, .d, .d, .d, .sl (.own none) [.d, .d], .sl (.own none) [.d], .d, .d, .sl (.own none) [.d, .d], .d]], .rd false [.d]], (.one false [.d])⟩
noncomputable def E_lmarkRecS : TEnv := envOf [(146, p_lmarkEdgeS), (147, p_lmarkIntS)]
noncomputable def f_lmarkRecS (n : Nat) : (List (Int × Int × Int × Int × Int × Int × Int × Bool × List (Int × Int) × List (Int) × Int × Int × List (Int × Int) × Int)) × Int → Option ((Int) × List (Int × Int × Int × Int × Int × Int × Int × Bool × List (Int × Int) × List (Int) × Int × Int × List (Int × Int) × Int)) := runFn n E_lmarkRecS c_lmarkRecS [[.sl [.i .i64, .i .i64, .i .i64, .i .i64, .i .i64, .i .i64, .i .i64, .b, .sl [.i .i64, .i .i64], .sl [.i .i64], .i .i64, .i .i64, .sl [.i .i64, .i .i64], .i .i64]], [.i .i64]] [.i .i64] [.sl [.i .i64, .i .i64, .i .i64, .i .i64, .i .i64, .i .i64, .i .i64, .b, .sl [.i .i64, .i .i64], .sl [.i .i64], .i .i64, .i .i64, .sl [.i .i64, .i .i64], .i .i64]] [4] (.mt 0 0 0)
noncomputable def g_lmarkRecS := f_lmarkRecS BIG
noncomputable def p_lmarkRecS : TSp := ⟨s_lmarkRecS, [[.sl [.i .i64, .i .i64, .i .i64, .i .i64, .i .i64, .i .i64, .i .i64, .b, .sl [.i .i64, .i .i64], .sl [.i .i64], .i .i64, .i .i64, .sl [.i .i64, .i .i64], .i .i64]], [.i .i64]], [.i .i64], [.sl [.i .i64, .i .i64, .i .i64, .i .i64, .i .i64, .i .i64, .i .i64, .b, .sl [.i .i64, .i .i64], .sl [.i .i64], .i .i64, .i .i64, .sl [.i .i64, .i .i64], .i .i64]], Ou.j (.mt 0 0 0), g_lmarkRecS⟩
theorem k_lmarkRecS : chkW PG E_lmarkRecS 57 s_lmarkRecS (c_lmarkRecS.ht 125) (.mt 0 0 0) = some (c_lmarkRecS.wc E_lmarkRecS, [4]) := by kernel_rfl
theorem ok_lmarkRecS : p_lmarkRecS.Ok PG 57 := mkOk (env_cons ok_lmarkEdgeS (env_cons ok_lmarkIntS (env_nil PG))) k_lmarkRecS (by kernel_rfl)
theorem e_lmarkRecS (n : Nat) (a0 : List (Int × Int × Int × Int × Int × Int × Int × Bool × (List (Int × Int)) × (List (Int)) × Int × Int × (List (Int × Int)) × Int)) (a1 : Int) : f_lmarkRecS n (a0, a1) =
  Option.bind (loopT n (X := (List (Int × Int × Int × Int × Int × Int × Int × Bool × (List (Int × Int)) × (List (Int)) × Int × Int × (List (Int × Int)) × Int)) × Int × Int) (B := (List (Int × Int × Int × Int × Int × Int × Int × Bool × (List (Int × Int)) × (List (Int)) × Int × Int × (List (Int × Int)) × Int)) × Int) (fun self1 x0 =>
    bif decide (x0.2.2 < (x0.1.length : Int)) then
     bnd x0.1.length x0.2.2 fun n2 =>
     Option.bind x0.1[n2]? fun y3 =>
     bnd (x0.1.set n2 (x0.2.1, y3.2)).length x0.2.2 fun n4 =>
     Option.bind (x0.1.set n2 (x0.2.1, y3.2))[n4]? fun y5 =>
     bnd ((x0.1.set n2 (x0.2.1, y3.2)).set n4 (y5.1, IntKind.wrap .i64 (x0.2.1 + (1 : Int)), y5.2.2)).length x0.2.2 fun n6 =>
     Option.bind ((x0.1.set n2 (x0.2.1, y3.2)).set n4 (y5.1, IntKind.wrap .i64 (x0.2.1 + (1 : Int)), y5.2.2))[n6]? fun y7 =>
     bnd (((x0.1.set n2 (x0.2.1, y3.2)).set n4 (y5.1, IntKind.wrap .i64 (x0.2.1 + (1 : Int)), y5.2.2)).set n6 (y7.1, y7.2.1, IntKind.wrap .i64 ((IntKind.wrap .i64 (x0.2.1 + (1 : Int))) + (1 : Int)), y7.2.2.2)).length x0.2.2 fun n8 =>
     Option.bind (((x0.1.set n2 (x0.2.1, y3.2)).set n4 (y5.1, IntKind.wrap .i64 (x0.2.1 + (1 : Int)), y5.2.2)).set n6 (y7.1, y7.2.1, IntKind.wrap .i64 ((IntKind.wrap .i64 (x0.2.1 + (1 : Int))) + (1 : Int)), y7.2.2.2))[n8]? fun y9 =>
     bnd ((((x0.1.set n2 (x0.2.1, y3.2)).set n4 (y5.1, IntKind.wrap .i64 (x0.2.1 + (1 : Int)), y5.2.2)).set n6 (y7.1, y7.2.1, IntKind.wrap .i64 ((IntKind.wrap .i64 (x0.2.1 + (1 : Int))) + (1 : Int)), y7.2.2.2)).set n8 (y9.1, y9.2.1, y9.2.2.1, IntKind.wrap .i64 ((IntKind.wrap .i64 ((IntKind.wrap .i64 (x0.2.1 + (1 : Int))) + (1 : Int))) + (1 : Int)), y9.2.2.2.2)).length x0.2.2 fun n10 =>
     Option.bind ((((x0.1.set n2 (x0.2.1, y3.2)).set n4 (y5.1, IntKind.wrap .i64 (x0.2.1 + (1 : Int)), y5.2.2)).set n6 (y7.1, y7.2.1, IntKind.wrap .i64 ((IntKind.wrap .i64 (x0.2.1 + (1 : Int))) + (1 : Int)), y7.2.2.2)).set n8 (y9.1, y9.2.1, y9.2.2.1, IntKind.wrap .i64 ((IntKind.wrap .i64 ((IntKind.wrap .i64 (x0.2.1 + (1 : Int))) + (1 : Int))) + (1 : Int)), y9.2.2.2.2))[n10]? fun y11 =>
     bnd (((((x0.1.set n2 (x0.2.1, y3.2)).set n4 (y5.1, IntKind.wrap .i64 (x0.2.1 + (1 : Int)), y5.2.2)).set n6 (y7.1, y7.2.1, IntKind.wrap .i64 ((IntKind.wrap .i64 (x0.2.1 + (1 : Int))) + (1 : Int)), y7.2.2.2)).set n8 (y9.1, y9.2.1, y9.2.2.1, IntKind.wrap .i64 ((IntKind.wrap .i64 ((IntKind.wrap .i64 (x0.2.1 + (1 : Int))) + (1 : Int))) + (1 : Int)), y9.2.2.2.2)).set n10 (y11.1, y11.2.1, y11.2.2.1, y11.2.2.2.1, IntKind.wrap .i64 ((IntKind.wrap .i64 ((IntKind.wrap .i64 ((IntKind.wrap .i64 (x0.2.1 + (1 : Int))) + (1 : Int))) + (1 : Int))) + (1 : Int)), y11.2.2.2.2.2)).length x0.2.2 fun n12 =>
     Option.bind (((((x0.1.set n2 (x0.2.1, y3.2)).set n4 (y5.1, IntKind.wrap .i64 (x0.2.1 + (1 : Int)), y5.2.2)).set n6 (y7.1, y7.2.1, IntKind.wrap .i64 ((IntKind.wrap .i64 (x0.2.1 + (1 : Int))) + (1 : Int)), y7.2.2.2)).set n8 (y9.1, y9.2.1, y9.2.2.1, IntKind.wrap .i64 ((IntKind.wrap .i64 ((IntKind.wrap .i64 (x0.2.1 + (1 : Int))) + (1 : Int))) + (1 : Int)), y9.2.2.2.2)).set n10 (y11.1, y11.2.1, y11.2.2.1, y11.2.2.2.1, IntKind.wrap .i64 ((IntKind.wrap .i64 ((IntKind.wrap .i64 ((IntKind.wrap .i64 (x0.2.1 + (1 : Int))) + (1 : Int))) + (1 : Int))) + (1 : Int)), y11.2.2.2.2.2))[n12]? fun y13 =>
     bnd ((((((x0.1.set n2 (x0.2.1, y3.2)).set n4 (y5.1, IntKind.wrap .i64 (x0.2.1 + (1 : Int)), y5.2.2)).set n6 (y7.1, y7.2.1, IntKind.wrap .i64 ((IntKind.wrap .i64 (x0.2.1 + (1 : Int))) + (1 : Int)), y7.2.2.2)).set n8 (y9.1, y9.2.1, y9.2.2.1, IntKind.wrap .i64 ((IntKind.wrap .i64 ((IntKind.wrap .i64 (x0.2.1 + (1 : Int))) + (1 : Int))) + (1 : Int)), y9.2.2.2.2)).set n10 (y11.1, y11.2.1, y11.2.2.1, y11.2.2.2.1, IntKind.wrap .i64 ((IntKind.wrap .i64 ((IntKind.wrap .i64 ((IntKind.wrap .i64 (x0.2.1 + (1 : Int))) + (1 : Int))) + (1 : Int))) + (1 : Int)), y11.2.2.2.2.2)).set n12 (y13.1, y13.2.1, y13.2.2.1, y13.2.2.2.1, y13.2.2.2.2.1, IntKind.wrap .i64 ((IntKind.wrap .i64 ((IntKind.wrap .i64 ((IntKind.wrap .i64 ((IntKind.wrap .i64 (x0.2.1 + (1 : Int))) + (1 : Int))) + (1 : Int))) + (1 : Int))) + (1 : Int)), y13.2.2.2.2.2.2)).length x0.2.2 fun n14 =>
     Option.bind ((((((x0.1.set n2 (x0.2.1, y3.2)).set n4 (y5.1, IntKind.wrap .i64 (x0.2.1 + (1 : Int)), y5.2.2)).set n6 (y7.1, y7.2.1, IntKind.wrap .i64 ((IntKind.wrap .i64 (x0.2.1 + (1 : Int))) + (1 : Int)), y7.2.2.2)).set n8 (y9.1, y9.2.1, y9.2.2.1, IntKind.wrap .i64 ((IntKind.wrap .i64 ((IntKind.wrap .i64 (x0.2.1 + (1 : Int))) + (1 : Int))) + (1 : Int)), y9.2.2.2.2)).set n10 (y11.1, y11.2.1, y11.2.2.1, y11.2.2.2.1, IntKind.wrap .i64 ((IntKind.wrap .i64 ((IntKind.wrap .i64 ((IntKind.wrap .i64 (x0.2.1 + (1 : Int))) + (1 : Int))) + (1 : Int))) + (1 : Int)), y11.2.2.2.2.2)).set n12 (y13.1, y13.2.1, y13.2.2.1, y13.2.2.2.1, y13.2.2.2.2.1, IntKind.wrap .i64 ((IntKind.wrap .i64 ((IntKind.wrap .i64 ((IntKind.wrap .i64 ((IntKind.wrap .i64 (x0.2.1 + (1 : Int))) + (1 : Int))) + (1 : Int))) + (1 : Int))) + (1 : Int)), y13.2.2.2.2.2.2))[n14]? fun y15 =>
     bif decide ((3 : Int) = 0) then
      none
     else bnd (((((((x0.1.set n2 (x0.2.1, y3.2)).set n4 (y5.1, IntKind.wrap .i64 (x0.2.1 + (1 : Int)), y5.2.2)).set n6 (y7.1, y7.2.1, IntKind.wrap .i64 ((IntKind.wrap .i64 (x0.2.1 + (1 : Int))) + (1 : Int)), y7.2.2.2)).set n8 (y9.1, y9.2.1, y9.2.2.1, IntKind.wrap .i64 ((IntKind.wrap .i64 ((IntKind.wrap .i64 (x0.2.1 + (1 : Int))) + (1 : Int))) + (1 : Int)), y9.2.2.2.2)).set n10 (y11.1, y11.2.1, y11.2.2.1, y11.2.2.2.1, IntKind.wrap .i64 ((IntKind.wrap .i64 ((IntKind.wrap .i64 ((IntKind.wrap .i64 (x0.2.1 + (1 : Int))) + (1 : Int))) + (1 : Int))) + (1 : Int)), y11.2.2.2.2.2)).set n12 (y13.1, y13.2.1, y13.2.2.1, y13.2.2.2.1, y13.2.2.2.2.1, IntKind.wrap .i64 ((IntKind.wrap .i64 ((IntKind.wrap .i64 ((IntKind.wrap .i64 ((IntKind.wrap .i64 (x0.2.1 + (1 : Int))) + (1 : Int))) + (1 : Int))) + (1 : Int))) + (1 : Int)), y13.2.2.2.2.2.2)).set n14 (y15.1, y15.2.1, y15.2.2.1, y15.2.2.2.1, y15.2.2.2.2.1, y15.2.2.2.2.2.1, IntKind.wrap .i64 ((IntKind.wrap .i64 ((IntKind.wrap .i64 ((IntKind.wrap .i64 ((IntKind.wrap .i64 ((IntKind.wrap .i64 (x0.2.1 + (1 : Int))) + (1 : Int))) + (1 : Int))) + (1 : Int))) + (1 : Int))) + (1 : Int)), y15.2.2.2.2.2.2.2)).length x0.2.2 fun n16 =>
     Option.bind (((((((x0.1.set n2 (x0.2.1, y3.2)).set n4 (y5.1, IntKind.wrap .i64 (x0.2.1 + (1 : Int)), y5.2.2)).set n6 (y7.1, y7.2.1, IntKind.wrap .i64 ((IntKind.wrap .i64 (x0.2.1 + (1 : Int))) + (1 : Int)), y7.2.2.2)).set n8 (y9.1, y9.2.1, y9.2.2.1, IntKind.wrap .i64 ((IntKind.wrap .i64 ((IntKind.wrap .i64 (x0.2.1 + (1 : Int))) + (1 : Int))) + (1 : Int)), y9.2.2.2.2)).set n10 (y11.1, y11.2.1, y11.2.2.1, y11.2.2.2.1, IntKind.wrap .i64 ((IntKind.wrap .i64 ((IntKind.wrap .i64 ((IntKind.wrap .i64 (x0.2.1 + (1 : Int))) + (1 : Int))) + (1 : Int))) + (1 : Int)), y11.2.2.2.2.2)).set n12 (y13.1, y13.2.1, y13.2.2.1, y13.2.2.2.1, y13.2.2.2.2.1, IntKind.wrap .i64 ((IntKind.wrap .i64 ((IntKind.wrap .i64 ((IntKind.wrap .i64 ((IntKind.wrap .i64 (x0.2.1 + (1 : Int))) + (1 : Int))) + (1 : Int))) + (1 : Int))) + (1 : Int)), y13.2.2.2.2.2.2)).set n14 (y15.1, y15.2.1, y15.2.2.1, y15.2.2.2.1, y15.2.2.2.2.1, y15.2.2.2.2.2.1, IntKind.wrap .i64 ((IntKind.wrap .i64 ((IntKind.wrap .i64 ((IntKind.wrap .i64 ((IntKind.wrap .i64 ((IntKind.wrap .i64 (x0.2.1 + (1 : Int))) + (1 : Int))) + (1 : Int))) + (1 : Int))) + (1 : Int))) + (1 : Int)), y15.2.2.2.2.2.2.2))[n16]? fun y17 =>
     bnd ((((((((x0.1.set n2 (x0.2.1, y3.2)).set n4 (y5.1, IntKind.wrap .i64 (x0.2.1 + (1 : Int)), y5.2.2)).set n6 (y7.1, y7.2.1, IntKind.wrap .i64 ((IntKind.wrap .i64 (x0.2.1 + (1 : Int))) + (1 : Int)), y7.2.2.2)).set n8 (y9.1, y9.2.1, y9.2.2.1, IntKind.wrap .i64 ((IntKind.wrap .i64 ((IntKind.wrap .i64 (x0.2.1 + (1 : Int))) + (1 : Int))) + (1 : Int)), y9.2.2.2.2)).set n10 (y11.1, y11.2.1, y11.2.2.1, y11.2.2.2.1, IntKind.wrap .i64 ((IntKind.wrap .i64 ((IntKind.wrap .i64 ((IntKind.wrap .i64 (x0.2.1 + (1 : Int))) + (1 : Int))) + (1 : Int))) + (1 : Int)), y11.2.2.2.2.2)).set n12 (y13.1, y13.2.1, y13.2.2.1, y13.2.2.2.1, y13.2.2.2.2.1, IntKind.wrap .i64 ((IntKind.wrap .i64 ((IntKind.wrap .i64 ((IntKind.wrap .i64 ((IntKind.wrap .i64 (x0.2.1 + (1 : Int))) + (1 : Int))) + (1 : Int))) + (1 : Int))) + (1 : Int)), y13.2.2.2.2.2.2)).set n14 (y15.1, y15.2.1, y15.2.2.1, y15.2.2.2.1, y15.2.2.2.2.1, y15.2.2.2.2.2.1, IntKind.wrap .i64 ((IntKind.wrap .i64 ((IntKind.wrap .i64 ((IntKind.wrap .i64 ((IntKind.wrap .i64 ((IntKind.wrap .i64 (x0.2.1 + (1 : Int))) + (1 : Int))) + (1 : Int))) + (1 : Int))) + (1 : Int))) + (1 : Int)), y15.2.2.2.2.2.2.2)).set n16 (y17.1, y17.2.1, y17.2.2.1, y17.2.2.2.1, y17.2.2.2.2.1, y17.2.2.2.2.2.1, y17.2.2.2.2.2.2.1, decide ((Int.tmod (IntKind.wrap .i64 ((IntKind.wrap .i64 ((IntKind.wrap .i64 ((IntKind.wrap .i64 ((IntKind.wrap .i64 ((IntKind.wrap .i64 ((IntKind.wrap .i64 (x0.2.1 + (1 : Int))) + (1 : Int))) + (1 : Int))) + (1 : Int))) + (1 : Int))) + (1 : Int))) + (1 : Int))) (3 : Int)) = (0 : Int)), y17.2.2.2.2.2.2.2.2)).length x0.2.2 fun n18 =>
     Option.bind ((((((((x0.1.set n2 (x0.2.1, y3.2)).set n4 (y5.1, IntKind.wrap .i64 (x0.2.1 + (1 : Int)), y5.2.2)).set n6 (y7.1, y7.2.1, IntKind.wrap .i64 ((IntKind.wrap .i64 (x0.2.1 + (1 : Int))) + (1 : Int)), y7.2.2.2)).set n8 (y9.1, y9.2.1, y9.2.2.1, IntKind.wrap .i64 ((IntKind.wrap .i64 ((IntKind.wrap .i64 (x0.2.1 + (1 : Int))) + (1 : Int))) + (1 : Int)), y9.2.2.2.2)).set n10 (y11.1, y11.2.1, y11.2.2.1, y11.2.2.2.1, IntKind.wrap .i64 ((IntKind.wrap .i64 ((IntKind.wrap .i64 ((IntKind.wrap .i64 (x0.2.1 + (1 : Int))) + (1 : Int))) + (1 : Int))) + (1 : Int)), y11.2.2.2.2.2)).set n12 (y13.1, y13.2.1, y13.2.2.1, y13.2.2.2.1, y13.2.2.2.2.1, IntKind.wrap .i64 ((IntKind.wrap .i64 ((IntKind.wrap .i64 ((IntKind.wrap .i64 ((IntKind.wrap .i64 (x0.2.1 + (1 : Int))) + (1 : Int))) + (1 : Int))) + (1 : Int))) + (1 : Int)), y13.2.2.2.2.2.2)).set n14 (y15.1, y15.2.1, y15.2.2.1, y15.2.2.2.1, y15.2.2.2.2.1, y15.2.2.2.2.2.1, IntKind.wrap .i64 ((IntKind.wrap .i64 ((IntKind.wrap .i64 ((IntKind.wrap .i64 ((IntKind.wrap .i64 ((IntKind.wrap .i64 (x0.2.1 + (1 : Int))) + (1 : Int))) + (1 : Int))) + (1 : Int))) + (1 : Int))) + (1 : Int)), y15.2.2.2.2.2.2.2)).set n16 (y17.1, y17.2.1, y17.2.2.1, y17.2.2.2.1, y17.2.2.2.2.1, y17.2.2.2.2.2.1, y17.2.2.2.2.2.2.1, decide ((Int.tmod (IntKind.wrap .i64 ((IntKind.wrap .i64 ((IntKind.wrap .i64 ((IntKind.wrap .i64 ((IntKind.wrap .i64 ((IntKind.wrap .i64 ((IntKind.wrap .i64 (x0.2.1 + (1 : Int))) + (1 : Int))) + (1 : Int))) + (1 : Int))) + (1 : Int))) + (1 : Int))) + (1 : Int))) (3 : Int)) = (0 : Int)), y17.2.2.2.2.2.2.2.2))[n18]? fun y19 =>
     Option.bind (g_lmarkEdgeS (y19.2.2.2.2.2.2.2.2.1, IntKind.wrap .i64 ((IntKind.wrap .i64 ((IntKind.wrap .i64 ((IntKind.wrap .i64 ((IntKind.wrap .i64 ((IntKind.wrap .i64 ((IntKind.wrap .i64 ((IntKind.wrap .i64 (x0.2.1 + (1 : Int))) + (1 : Int))) + (1 : Int))) + (1 : Int))) + (1 : Int))) + (1 : Int))) + (1 : Int))) + (1 : Int)))) fun r20 =>
     Option.bind ((((((((x0.1.set n2 (x0.2.1, y3.2)).set n4 (y5.1, IntKind.wrap .i64 (x0.2.1 + (1 : Int)), y5.2.2)).set n6 (y7.1, y7.2.1, IntKind.wrap .i64 ((IntKind.wrap .i64 (x0.2.1 + (1 : Int))) + (1 : Int)), y7.2.2.2)).set n8 (y9.1, y9.2.1, y9.2.2.1, IntKind.wrap .i64 ((IntKind.wrap .i64 ((IntKind.wrap .i64 (x0.2.1 + (1 : Int))) + (1 : Int))) + (1 : Int)), y9.2.2.2.2)).set n10 (y11.1, y11.2.1, y11.2.2.1, y11.2.2.2.1, IntKind.wrap .i64 ((IntKind.wrap .i64 ((IntKind.wrap .i64 ((IntKind.wrap .i64 (x0.2.1 + (1 : Int))) + (1 : Int))) + (1 : Int))) + (1 : Int)), y11.2.2.2.2.2)).set n12 (y13.1, y13.2.1, y13.2.2.1, y13.2.2.2.1, y13.2.2.2.2.1, IntKind.wrap .i64 ((IntKind.wrap .i64 ((IntKind.wrap .i64 ((IntKind.wrap .i64 ((IntKind.wrap .i64 (x0.2.1 + (1 : Int))) + (1 : Int))) + (1 : Int))) + (1 : Int))) + (1 : Int)), y13.2.2.2.2.2.2)).set n14 (y15.1, y15.2.1, y15.2.2.1, y15.2.2.2.1, y15.2.2.2.2.1, y15.2.2.2.2.2.1, IntKind.wrap .i64 ((IntKind.wrap .i64 ((IntKind.wrap .i64 ((IntKind.wrap .i64 ((IntKind.wrap .i64 ((IntKind.wrap .i64 (x0.2.1 + (1 : Int))) + (1 : Int))) + (1 : Int))) + (1 : Int))) + (1 : Int))) + (1 : Int)), y15.2.2.2.2.2.2.2)).set n16 (y17.1, y17.2.1, y17.2.2.1, y17.2.2.2.1, y17.2.2.2.2.1, y17.2.2.2.2.2.1, y17.2.2.2.2.2.2.1, decide ((Int.tmod (IntKind.wrap .i64 ((IntKind.wrap .i64 ((IntKind.wrap .i64 ((IntKind.wrap .i64 ((IntKind.wrap .i64 ((IntKind.wrap .i64 ((IntKind.wrap .i64 (x0.2.1 + (1 : Int))) + (1 : Int))) + (1 : Int))) + (1 : Int))) + (1 : Int))) + (1 : Int))) + (1 : Int))) (3 : Int)) = (0 : Int)), y17.2.2.2.2.2.2.2.2))[n18]? fun y21 =>
     bnd (((((((((x0.1.set n2 (x0.2.1, y3.2)).set n4 (y5.1, IntKind.wrap .i64 (x0.2.1 + (1 : Int)), y5.2.2)).set n6 (y7.1, y7.2.1, IntKind.wrap .i64 ((IntKind.wrap .i64 (x0.2.1 + (1 : Int))) + (1 : Int)), y7.2.2.2)).set n8 (y9.1, y9.2.1, y9.2.2.1, IntKind.wrap .i64 ((IntKind.wrap .i64 ((IntKind.wrap .i64 (x0.2.1 + (1 : Int))) + (1 : Int))) + (1 : Int)), y9.2.2.2.2)).set n10 (y11.1, y11.2.1, y11.2.2.1, y11.2.2.2.1, IntKind.wrap .i64 ((IntKind.wrap .i64 ((IntKind.wrap .i64 ((IntKind.wrap .i64 (x0.2.1 + (1 : Int))) + (1 : Int))) + (1 : Int))) + (1 : Int)), y11.2.2.2.2.2)).set n12 (y13.1, y13.2.1, y13.2.2.1, y13.2.2.2.1, y13.2.2.2.2.1, IntKind.wrap .i64 ((IntKind.wrap .i64 ((IntKind.wrap .i64 ((IntKind.wrap .i64 ((IntKind.wrap .i64 (x0.2.1 + (1 : Int))) + (1 : Int))) + (1 : Int))) + (1 : Int))) + (1 : Int)), y13.2.2.2.2.2.2)).set n14 (y15.1, y15.2.1, y15.2.2.1, y15.2.2.2.1, y15.2.2.2.2.1, y15.2.2.2.2.2.1, IntKind.wrap .i64 ((IntKind.wrap .i64 ((IntKind.wrap .i64 ((IntKind.wrap .i64 ((IntKind.wrap .i64 ((IntKind.wrap .i64 (x0.2.1 + (1 : Int))) + (1 : Int))) + (1 : Int))) + (1 : Int))) + (1 : Int))) + (1 : Int)), y15.2.2.2.2.2.2.2)).set n16 (y17.1, y17.2.1, y17.2.2.1, y17.2.2.2.1, y17.2.2.2.2.1, y17.2.2.2.2.2.1, y17.2.2.2.2.2.2.1, decide ((Int.tmod (IntKind.wrap .i64 ((IntKind.wrap .i64 ((IntKind.wrap .i64 ((IntKind.wrap .i64 ((IntKind.wrap .i64 ((IntKind.wrap .i64 ((IntKind.wrap .i64 (x0.2.1 + (1 : Int))) + (1 : Int))) + (1 : Int))) + (1 : Int))) + (1 : Int))) + (1 : Int))) + (1 : Int))) (3 : Int)) = (0 : Int)), y17.2.2.2.2.2.2.2.2)).set n18 (y21.1, y21.2.1, y21.2.2.1, y21.2.2.2.1, y21.2.2.2.2.1, y21.2.2.2.2.2.1, y21.2.2.2.2.2.2.1, y21.2.2.2.2.2.2.2.1, r20.2, y21.2.2.2.2.2.2.2.2.2)).length x0.2.2 fun n22 =>
     Option.bind (((((((((x0.1.set n2 (x0.2.1, y3.2)).set n4 (y5.1, IntKind.wrap .i64 (x0.2.1 + (1 : Int)), y5.2.2)).set n6 (y7.1, y7.2.1, IntKind.wrap .i64 ((IntKind.wrap .i64 (x0.2.1 + (1 : Int))) + (1 : Int)), y7.2.2.2)).set n8 (y9.1, y9.2.1, y9.2.2.1, IntKind.wrap .i64 ((IntKind.wrap .i64 ((IntKind.wrap .i64 (x0.2.1 + (1 : Int))) + (1 : Int))) + (1 : Int)), y9.2.2.2.2)).set n10 (y11.1, y11.2.1, y11.2.2.1, y11.2.2.2.1, IntKind.wrap .i64 ((IntKind.wrap .i64 ((IntKind.wrap .i64 ((IntKind.wrap .i64 (x0.2.1 + (1 : Int))) + (1 : Int))) + (1 : Int))) + (1 : Int)), y11.2.2.2.2.2)).set n12 (y13.1, y13.2.1, y13.2.2.1, y13.2.2.2.1, y13.2.2.2.2.1, IntKind.wrap .i64 ((IntKind.wrap .i64 ((IntKind.wrap .i64 ((IntKind.wrap .i64 ((IntKind.wrap .i64 (x0.2.1 + (1 : Int))) + (1 : Int))) + (1 : Int))) + (1 : Int))) + (1 : Int)), y13.2.2.2.2.2.2)).set n14 (y15.1, y15.2.1, y15.2.2.1, y15.2.2.2.1, y15.2.2.2.2.1, y15.2.2.2.2.2.1, IntKind.wrap .i64 ((IntKind.wrap .i64 ((IntKind.wrap .i64 ((IntKind.wrap .i64 ((IntKind.wrap .i64 ((IntKind.wrap .i64 (x0.2.1 + (1 : Int))) + (1 : Int))) + (1 : Int))) + (1 : Int))) + (1 : Int))) + (1 : Int)), y15.2.2.2.2.2.2.2)).set n16 (y17.1, y17.2.1, y17.2.2.1, y17.2.2.2.1, y17.2.2.2.2.1, y17.2.2.2.2.2.1, y17.2.2.2.2.2.2.1, decide ((Int.tmod (IntKind.wrap .i64 ((IntKind.wrap .i64 ((IntKind.wrap .i64 ((IntKind.wrap .i64 ((IntKind.wrap .i64 ((IntKind.wrap .i64 ((IntKind.wrap .i64 (x0.2.1 + (1 : Int))) + (1 : Int))) + (1 : Int))) + (1 : Int))) + (1 : Int))) + (1 : Int))) + (1 : Int))) (3 : Int)) = (0 : Int)), y17.2.2.2.2.2.2.2.2)).set n18 (y21.1, y21.2.1, y21.2.2.1, y21.2.2.2.1, y21.2.2.2.2.1, y21.2.2.2.2.2.1, y21.2.2.2.2.2.2.1, y21.2.2.2.2.2.2.2.1, r20.2, y21.2.2.2.2.2.2.2.2.2))[n22]? fun y23 =>
     Option.bind (g_lmarkIntS (y23.2.2.2.2.2.2.2.2.2.1, r20.1)) fun r24 =>
     Option.bind (((((((((x0.1.set n2 (x0.2.1, y3.2)).set n4 (y5.1, IntKind.wrap .i64 (x0.2.1 + (1 : Int)), y5.2.2)).set n6 (y7.1, y7.2.1, IntKind.wrap .i64 ((IntKind.wrap .i64 (x0.2.1 + (1 : Int))) + (1 : Int)), y7.2.2.2)).set n8 (y9.1, y9.2.1, y9.2.2.1, IntKind.wrap .i64 ((IntKind.wrap .i64 ((IntKind.wrap .i64 (x0.2.1 + (1 : Int))) + (1 : Int))) + (1 : Int)), y9.2.2.2.2)).set n10 (y11.1, y11.2.1, y11.2.2.1, y11.2.2.2.1, IntKind.wrap .i64 ((IntKind.wrap .i64 ((IntKind.wrap .i64 ((IntKind.wrap .i64 (x0.2.1 + (1 : Int))) + (1 : Int))) + (1 : Int))) + (1 : Int)), y11.2.2.2.2.2)).set n12 (y13.1, y13.2.1, y13.2.2.1, y13.2.2.2.1, y13.2.2.2.2.1, IntKind.wrap .i64 ((IntKind.wrap .i64 ((IntKind.wrap .i64 ((IntKind.wrap .i64 ((IntKind.wrap .i64 (x0.2.1 + (1 : Int))) + (1 : Int))) + (1 : Int))) + (1 : Int))) + (1 : Int)), y13.2.2.2.2.2.2)).set n14 (y15.1, y15.2.1, y15.2.2.1, y15.2.2.2.1, y15.2.2.2.2.1, y15.2.2.2.2.2.1, IntKind.wrap .i64 ((IntKind.wrap .i64 ((IntKind.wrap .i64 ((IntKind.wrap .i64 ((IntKind.wrap .i64 ((IntKind.wrap .i64 (x0.2.1 + (1 : Int))) + (1 : Int))) + (1 : Int))) + (1 : Int))) + (1 : Int))) + (1 : Int)), y15.2.2.2.2.2.2.2)).set n16 (y17.1, y17.2.1, y17.2.2.1, y17.2.2.2.1, y17.2.2.2.2.1, y17.2.2.2.2.2.1, y17.2.2.2.2.2.2.1, decide ((Int.tmod (IntKind.wrap .i64 ((IntKind.wrap .i64 ((IntKind.wrap .i64 ((IntKind.wrap .i64 ((IntKind.wrap .i64 ((IntKind.wrap .i64 ((IntKind.wrap .i64 (x0.2.1 + (1 : Int))) + (1 : Int))) + (1 : Int))) + (1 : Int))) + (1 : Int))) + (1 : Int))) + (1 : Int))) (3 : Int)) = (0 : Int)), y17.2.2.2.2.2.2.2.2)).set n18 (y21.1, y21.2.1, y21.2.2.1, y21.2.2.2.1, y21.2.2.2.2.1, y21.2.2.2.2.2.1, y21.2.2.2.2.2.2.1, y21.2.2.2.2.2.2.2.1, r20.2, y21.2.2.2.2.2.2.2.2.2))[n22]? fun y25 =>
     bnd ((((((((((x0.1.set n2 (x0.2.1, y3.2)).set n4 (y5.1, IntKind.wrap .i64 (x0.2.1 + (1 : Int)), y5.2.2)).set n6 (y7.1, y7.2.1, IntKind.wrap .i64 ((IntKind.wrap .i64 (x0.2.1 + (1 : Int))) + (1 : Int)), y7.2.2.2)).set n8 (y9.1, y9.2.1, y9.2.2.1, IntKind.wrap .i64 ((IntKind.wrap .i64 ((IntKind.wrap .i64 (x0.2.1 + (1 : Int))) + (1 : Int))) + (1 : Int)), y9.2.2.2.2)).set n10 (y11.1, y11.2.1, y11.2.2.1, y11.2.2.2.1, IntKind.wrap .i64 ((IntKind.wrap .i64 ((IntKind.wrap .i64 ((IntKind.wrap .i64 (x0.2.1 + (1 : Int))) + (1 : Int))) + (1 : Int))) + (1 : Int)), y11.2.2.2.2.2)).set n12 (y13.1, y13.2.1, y13.2.2.1, y13.2.2.2.1, y13.2.2.2.2.1, IntKind.wrap .i64 ((IntKind.wrap .i64 ((IntKind.wrap .i64 ((IntKind.wrap .i64 ((IntKind.wrap .i64 (x0.2.1 + (1 : Int))) + (1 : Int))) + (1 : Int))) + (1 : Int))) + (1 : Int)), y13.2.2.2.2.2.2)).set n14 (y15.1, y15.2.1, y15.2.2.1, y15.2.2.2.1, y15.2.2.2.2.1, y15.2.2.2.2.2.1, IntKind.wrap .i64 ((IntKind.wrap .i64 ((IntKind.wrap .i64 ((IntKind.wrap .i64 ((IntKind.wrap .i64 ((IntKind.wrap .i64 (x0.2.1 + (1 : Int))) + (1 : Int))) + (1 : Int))) + (1 : Int))) + (1 : Int))) + (1 : Int)), y15.2.2.2.2.2.2.2)).set n16 (y17.1, y17.2.1, y17.2.2.1, y17.2.2.2.1, y17.2.2.2.2.1, y17.2.2.2.2.2.1, y17.2.2.2.2.2.2.1, decide ((Int.tmod (IntKind.wrap .i64 ((IntKind.wrap .i64 ((IntKind.wrap .i64 ((IntKind.wrap .i64 ((IntKind.wrap .i64 ((IntKind.wrap .i64 ((IntKind.wrap .i64 (x0.2.1 + (1 : Int))) + (1 : Int))) + (1 : Int))) + (1 : Int))) + (1 : Int))) + (1 : Int))) + (1 : Int))) (3 : Int)) = (0 : Int)), y17.2.2.2.2.2.2.2.2)).set n18 (y21.1, y21.2.1, y21.2.2.1, y21.2.2.2.1, y21.2.2.2.2.1, y21.2.2.2.2.2.1, y21.2.2.2.2.2.2.1, y21.2.2.2.2.2.2.2.1, r20.2, y21.2.2.2.2.2.2.2.2.2)).set n22 (y25.1, y25.2.1, y25.2.2.1, y25.2.2.2.1, y25.2.2.2.2.1, y25.2.2.2.2.2.1, y25.2.2.2.2.2.2.1, y25.2.2.2.2.2.2.2.1, y25.2.2.2.2.2.2.2.2.1, r24.2, y25.2.2.2.2.2.2.2.2.2.2)).length x0.2.2 fun n26 =>
     Option.bind ((((((((((x0.1.set n2 (x0.2.1, y3.2)).set n4 (y5.1, IntKind.wrap .i64 (x0.2.1 + (1 : Int)), y5.2.2)).set n6 (y7.1, y7.2.1, IntKind.wrap .i64 ((IntKind.wrap .i64 (x0.2.1 + (1 : Int))) + (1 : Int)), y7.2.2.2)).set n8 (y9.1, y9.2.1, y9.2.2.1, IntKind.wrap .i64 ((IntKind.wrap .i64 ((IntKind.wrap .i64 (x0.2.1 + (1 : Int))) + (1 : Int))) + (1 : Int)), y9.2.2.2.2)).set n10 (y11.1, y11.2.1, y11.2.2.1, y11.2.2.2.1, IntKind.wrap .i64 ((IntKind.wrap .i64 ((IntKind.wrap .i64 ((IntKind.wrap .i64 (x0.2.1 + (1 : Int))) + (1 : Int))) + (1 : Int))) + (1 : Int)), y11.2.2.2.2.2)).set n12 (y13.1, y13.2.1, y13.2.2.1, y13.2.2.2.1, y13.2.2.2.2.1, IntKind.wrap .i64 ((IntKind.wrap .i64 ((IntKind.wrap .i64 ((IntKind.wrap .i64 ((IntKind.wrap .i64 (x0.2.1 + (1 : Int))) + (1 : Int))) + (1 : Int))) + (1 : Int))) + (1 : Int)), y13.2.2.2.2.2.2)).set n14 (y15.1, y15.2.1, y15.2.2.1, y15.2.2.2.1, y15.2.2.2.2.1, y15.2.2.2.2.2.1, IntKind.wrap .i64 ((IntKind.wrap .i64 ((IntKind.wrap .i64 ((IntKind.wrap .i64 ((IntKind.wrap .i64 ((IntKind.wrap .i64 (x0.2.1 + (1 : Int))) + (1 : Int))) + (1 : Int))) + (1 : Int))) + (1 : Int))) + (1 : Int)), y15.2.2.2.2.2.2.2)).set n16 (y17.1, y17.2.1, y17.2.2.1, y17.2.2.2.1, y17.2.2.2.2.1, y17.2.2.2.2.2.1, y17.2.2.2.2.2.2.1, decide ((Int.tmod (IntKind.wrap .i64 ((IntKind.wrap .i64 ((IntKind.wrap .i64 ((IntKind.wrap .i64 ((IntKind.wrap .i64 ((IntKind.wrap .i64 ((IntKind.wrap .i64 (x0.2.1 + (1 : Int))) + (1 : Int))) + (1 : Int))) + (1 : Int))) + (1 : Int))) + (1 : Int))) + (1 : Int))) (3 : Int)) = (0 : Int)), y17.2.2.2.2.2.2.2.2)).set n18 (y21.1, y21.2.1, y21.2.2.1, y21.2.2.2.1, y21.2.2.2.2.1, y21.2.2.2.2.2.1, y21.2.2.2.2.2.2.1, y21.2.2.2.2.2.2.2.1, r20.2, y21.2.2.2.2.2.2.2.2.2)).set n22 (y25.1, y25.2.1, y25.2.2.1, y25.2.2.2.1, y25.2.2.2.2.1, y25.2.2.2.2.2.1, y25.2.2.2.2.2.2.1, y25.2.2.2.2.2.2.2.1, y25.2.2.2.2.2.2.2.2.1, r24.2, y25.2.2.2.2.2.2.2.2.2.2))[n26]? fun y27 =>
     bnd (((((((((((x0.1.set n2 (x0.2.1, y3.2)).set n4 (y5.1, IntKind.wrap .i64 (x0.2.1 + (1 : Int)), y5.2.2)).set n6 (y7.1, y7.2.1, IntKind.wrap .i64 ((IntKind.wrap .i64 (x0.2.1 + (1 : Int))) + (1 : Int)), y7.2.2.2)).set n8 (y9.1, y9.2.1, y9.2.2.1, IntKind.wrap .i64 ((IntKind.wrap .i64 ((IntKind.wrap .i64 (x0.2.1 + (1 : Int))) + (1 : Int))) + (1 : Int)), y9.2.2.2.2)).set n10 (y11.1, y11.2.1, y11.2.2.1, y11.2.2.2.1, IntKind.wrap .i64 ((IntKind.wrap .i64 ((IntKind.wrap .i64 ((IntKind.wrap .i64 (x0.2.1 + (1 : Int))) + (1 : Int))) + (1 : Int))) + (1 : Int)), y11.2.2.2.2.2)).set n12 (y13.1, y13.2.1, y13.2.2.1, y13.2.2.2.1, y13.2.2.2.2.1, IntKind.wrap .i64 ((IntKind.wrap .i64 ((IntKind.wrap .i64 ((IntKind.wrap .i64 ((IntKind.wrap .i64 (x0.2.1 + (1 : Int))) + (1 : Int))) + (1 : Int))) + (1 : Int))) + (1 : Int)), y13.2.2.2.2.2.2)).set n14 (y15.1, y15.2.1, y15.2.2.1, y15.2.2.2.1, y15.2.2.2.2.1, y15.2.2.2.2.2.1, IntKind.wrap .i64 ((IntKind.wrap .i64 ((IntKind.wrap .i64 ((IntKind.wrap .i64 ((IntKind.wrap .i64 ((IntKind.wrap .i64 (x0.2.1 + (1 : Int))) + (1 : Int))) + (1 : Int))) + (1 : Int))) + (1 : Int))) + (1 : Int)), y15.2.2.2.2.2.2.2)).set n16 (y17.1, y17.2.1, y17.2.2.1, y17.2.2.2.1, y17.2.2.2.2.1, y17.2.2.2.2.2.1, y17.2.2.2.2.2.2.1, decide ((Int.tmod (IntKind.wrap .i64 ((IntKind.wrap .i64 ((IntKind.wrap .i64 ((IntKind.wrap .i64 ((IntKind.wrap .i64 ((IntKind.wrap .i64 ((IntKind.wrap .i64 (x0.2.1 + (1 : Int))) + (1 : Int))) + (1 : Int))) + (1 : Int))) + (1 : Int))) + (1 : Int))) + (1 : Int))) (3 : Int)) = (0 : Int)), y17.2.2.2.2.2.2.2.2)).set n18 (y21.1, y21.2.1, y21.2.2.1, y21.2.2.2.1, y21.2.2.2.2.1, y21.2.2.2.2.2.1, y21.2.2.2.2.2.2.1, y21.2.2.2.2.2.2.2.1, r20.2, y21.2.2.2.2.2.2.2.2.2)).set n22 (y25.1, y25.2.1, y25.2.2.1, y25.2.2.2.1, y25.2.2.2.2.1, y25.2.2.2.2.2.1, y25.2.2.2.2.2.2.1, y25.2.2.2.2.2.2.2.1, y25.2.2.2.2.2.2.2.2.1, r24.2, y25.2.2.2.2.2.2.2.2.2.2)).set n26 (y27.1, y27.2.1, y27.2.2.1, y27.2.2.2.1, y27.2.2.2.2.1, y27.2.2.2.2.2.1, y27.2.2.2.2.2.2.1, y27.2.2.2.2.2.2.2.1, y27.2.2.2.2.2.2.2.2.1, y27.2.2.2.2.2.2.2.2.2.1, r24.1, y27.2.2.2.2.2.2.2.2.2.2.2)).length x0.2.2 fun n28 =>
     Option.bind (((((((((((x0.1.set n2 (x0.2.1, y3.2)).set n4 (y5.1, IntKind.wrap .i64 (x0.2.1 + (1 : Int)), y5.2.2)).set n6 (y7.1, y7.2.1, IntKind.wrap .i64 ((IntKind.wrap .i64 (x0.2.1 + (1 : Int))) + (1 : Int)), y7.2.2.2)).set n8 (y9.1, y9.2.1, y9.2.2.1, IntKind.wrap .i64 ((IntKind.wrap .i64 ((IntKind.wrap .i64 (x0.2.1 + (1 : Int))) + (1 : Int))) + (1 : Int)), y9.2.2.2.2)).set n10 (y11.1, y11.2.1, y11.2.2.1, y11.2.2.2.1, IntKind.wrap .i64 ((IntKind.wrap .i64 ((IntKind.wrap .i64 ((IntKind.wrap .i64 (x0.2.1 + (1 : Int))) + (1 : Int))) + (1 : Int))) + (1 : Int)), y11.2.2.2.2.2)).set n12 (y13.1, y13.2.1, y13.2.2.1, y13.2.2.2.1, y13.2.2.2.2.1, IntKind.wrap .i64 ((IntKind.wrap .i64 ((IntKind.wrap .i64 ((IntKind.wrap .i64 ((IntKind.wrap .i64 (x0.2.1 + (1 : Int))) + (1 : Int))) + (1 : Int))) + (1 : Int))) + (1 : Int)), y13.2.2.2.2.2.2)).set n14 (y15.1, y15.2.1, y15.2.2.1, y15.2.2.2.1, y15.2.2.2.2.1, y15.2.2.2.2.2.1, IntKind.wrap .i64 ((IntKind.wrap .i64 ((IntKind.wrap .i64 ((IntKind.wrap .i64 ((IntKind.wrap .i64 ((IntKind.wrap .i64 (x0.2.1 + (1 : Int))) + (1 : Int))) + (1 : Int))) + (1 : Int))) + (1 : Int))) + (1 : Int)), y15.2.2.2.2.2.2.2)).set n16 (y17.1, y17.2.1, y17.2.2.1, y17.2.2.2.1, y17.2.2.2.2.1, y17.2.2.2.2.2.1, y17.2.2.2.2.2.2.1, decide ((Int.tmod (IntKind.wrap .i64 ((IntKind.wrap .i64 ((IntKind.wrap .i64 ((IntKind.wrap .i64 ((IntKind.wrap .i64 ((IntKind.wrap .i64 ((IntKind.wrap .i64 (x0.2.1 + (1 : Int))) + (1 : Int))) + (1 : Int))) + (1 : Int))) + (1 : Int))) + (1 : Int))) + (1 : Int))) (3 : Int)) = (0 : Int)), y17.2.2.2.2.2.2.2.2)).set n18 (y21.1, y21.2.1, y21.2.2.1, y21.2.2.2.1, y21.2.2.2.2.1, y21.2.2.2.2.2.1, y21.2.2.2.2.2.2.1, y21.2.2.2.2.2.2.2.1, r20.2, y21.2.2.2.2.2.2.2.2.2)).set n22 (y25.1, y25.2.1, y25.2.2.1, y25.2.2.2.1, y25.2.2.2.2.1, y25.2.2.2.2.2.1, y25.2.2.2.2.2.2.1, y25.2.2.2.2.2.2.2.1, y25.2.2.2.2.2.2.2.2.1, r24.2, y25.2.2.2.2.2.2.2.2.2.2)).set n26 (y27.1, y27.2.1, y27.2.2.1, y27.2.2.2.1, y27.2.2.2.2.1, y27.2.2.2.2.2.1, y27.2.2.2.2.2.2.1, y27.2.2.2.2.2.2.2.1, y27.2.2.2.2.2.2.2.2.1, y27.2.2.2.2.2.2.2.2.2.1, r24.1, y27.2.2.2.2.2.2.2.2.2.2.2))[n28]? fun y29 =>
     bnd ((((((((((((x0.1.set n2 (x0.2.1, y3.2)).set n4 (y5.1, IntKind.wrap .i64 (x0.2.1 + (1 : Int)), y5.2.2)).set n6 (y7.1, y7.2.1, IntKind.wrap .i64 ((IntKind.wrap .i64 (x0.2.1 + (1 : Int))) + (1 : Int)), y7.2.2.2)).set n8 (y9.1, y9.2.1, y9.2.2.1, IntKind.wrap .i64 ((IntKind.wrap .i64 ((IntKind.wrap .i64 (x0.2.1 + (1 : Int))) + (1 : Int))) + (1 : Int)), y9.2.2.2.2)).set n10 (y11.1, y11.2.1, y11.2.2.1, y11.2.2.2.1, IntKind.wrap .i64 ((IntKind.wrap .i64 ((IntKind.wrap .i64 ((IntKind.wrap .i64 (x0.2.1 + (1 : Int))) + (1 : Int))) + (1 : Int))) + (1 : Int)), y11.2.2.2.2.2)).set n12 (y13.1, y13.2.1, y13.2.2.1, y13.2.2.2.1, y13.2.2.2.2.1, IntKind.wrap .i64 ((IntKind.wrap .i64 ((IntKind.wrap .i64 ((IntKind.wrap .i64 ((IntKind.wrap .i64 (x0.2.1 + (1 : Int))) + (1 : Int))) + (1 : Int))) + (1 : Int))) + (1 : Int)), y13.2.2.2.2.2.2)).set n14 (y15.1, y15.2.1, y15.2.2.1, y15.2.2.2.1, y15.2.2.2.2.1, y15.2.2.2.2.2.1, IntKind.wrap .i64 ((IntKind.wrap .i64 ((IntKind.wrap .i64 ((IntKind.wrap .i64 ((IntKind.wrap .i64 ((IntKind.wrap .i64 (x0.2.1 + (1 : Int))) + (1 : Int))) + (1 : Int))) + (1 : Int))) + (1 : Int))) + (1 : Int)), y15.2.2.2.2.2.2.2)).set n16 (y17.1, y17.2.1, y17.2.2.1, y17.2.2.2.1, y17.2.2.2.2.1, y17.2.2.2.2.2.1, y17.2.2.2.2.2.2.1, decide ((Int.tmod (IntKind.wrap .i64 ((IntKind.wrap .i64 ((IntKind.wrap .i64 ((IntKind.wrap .i64 ((IntKind.wrap .i64 ((IntKind.wrap .i64 ((IntKind.wrap .i64 (x0.2.1 + (1 : Int))) + (1 : Int))) + (1 : Int))) + (1 : Int))) + (1 : Int))) + (1 : Int))) + (1 : Int))) (3 : Int)) = (0 : Int)), y17.2.2.2.2.2.2.2.2)).set n18 (y21.1, y21.2.1, y21.2.2.1, y21.2.2.2.1, y21.2.2.2.2.1, y21.2.2.2.2.2.1, y21.2.2.2.2.2.2.1, y21.2.2.2.2.2.2.2.1, r20.2, y21.2.2.2.2.2.2.2.2.2)).set n22 (y25.1, y25.2.1, y25.2.2.1, y25.2.2.2.1, y25.2.2.2.2.1, y25.2.2.2.2.2.1, y25.2.2.2.2.2.2.1, y25.2.2.2.2.2.2.2.1, y25.2.2.2.2.2.2.2.2.1, r24.2, y25.2.2.2.2.2.2.2.2.2.2)).set n26 (y27.1, y27.2.1, y27.2.2.1, y27.2.2.2.1, y27.2.2.2.2.1, y27.2.2.2.2.2.1, y27.2.2.2.2.2.2.1, y27.2.2.2.2.2.2.2.1, y27.2.2.2.2.2.2.2.2.1, y27.2.2.2.2.2.2.2.2.2.1, r24.1, y27.2.2.2.2.2.2.2.2.2.2.2)).set n28 (y29.1, y29.2.1, y29.2.2.1, y29.2.2.2.1, y29.2.2.2.2.1, y29.2.2.2.2.2.1, y29.2.2.2.2.2.2.1, y29.2.2.2.2.2.2.2.1, y29.2.2.2.2.2.2.2.2.1, y29.2.2.2.2.2.2.2.2.2.1, y29.2.2.2.2.2.2.2.2.2.2.1, IntKind.wrap .i64 (r24.1 + (1 : Int)), y29.2.2.2.2.2.2.2.2.2.2.2.2)).length x0.2.2 fun n30 =>
     Option.bind ((((((((((((x0.1.set n2 (x0.2.1, y3.2)).set n4 (y5.1, IntKind.wrap .i64 (x0.2.1 + (1 : Int)), y5.2.2)).set n6 (y7.1, y7.2.1, IntKind.wrap .i64 ((IntKind.wrap .i64 (x0.2.1 + (1 : Int))) + (1 : Int)), y7.2.2.2)).set n8 (y9.1, y9.2.1, y9.2.2.1, IntKind.wrap .i64 ((IntKind.wrap .i64 ((IntKind.wrap .i64 (x0.2.1 + (1 : Int))) + (1 : Int))) + (1 : Int)), y9.2.2.2.2)).set n10 (y11.1, y11.2.1, y11.2.2.1, y11.2.2.2.1, IntKind.wrap .i64 ((IntKind.wrap .i64 ((IntKind.wrap .i64 ((IntKind.wrap .i64 (x0.2.1 + (1 : Int))) + (1 : Int))) + (1 : Int))) + (1 : Int)), y11.2.2.2.2.2)).set n12 (y13.1, y13.2.1, y13.2.2.1, y13.2.2.2.1, y13.2.2.2.2.1, IntKind.wrap .i64 ((IntKind.wrap .i64 ((IntKind.wrap .i64 ((IntKind.wrap .i64 ((IntKind.wrap .i64 (x0.2.1 + (1 : Int))) + (1 : Int))) + (1 : Int))) + (1 : Int))) + (1 : Int)), y13.2.2.2.2.2.2)).set n14 (y15.1, y15.2.1, y15.2.2.1, y15.2.2.2.1, y15.2.2.2.2.1, y15.2.2.2.2.2.1, IntKind.wrap .i64 ((IntKind.wrap .i64 ((IntKind.wrap .i64 ((IntKind.wrap .i64 ((IntKind.wrap .i64 ((IntKind.wrap .i64 (x0.2.1 + (1 : Int))) + (1 : Int))) + (1 : Int))) + (1 : Int))) + (1 : Int))) + (1 : Int)), y15.2.2.2.2.2.2.2)).set n16 (y17.1, y17.2.1, y17.2.2.1, y17.2.2.2.1, y17.2.2.2.2.1, y17.2.2.2.2.2.1, y17.2.2.2.2.2.2.1, decide ((Int.tmod (IntKind.wrap .i64 ((IntKind.wrap .i64 ((IntKind.wrap .i64 ((IntKind.wrap .i64 ((IntKind.wrap .i64 ((IntKind.wrap .i64 ((IntKind.wrap .i64 (x0.2.1 + (1 : Int))) + (1 : Int))) + (1 : Int))) + (1 : Int))) + (1 : Int))) + (1 : Int))) + (1 : Int))) (3 : Int)) = (0 : Int)), y17.2.2.2.2.2.2.2.2)).set n18 (y21.1, y21.2.1, y21.2.2.1, y21.2.2.2.1, y21.2.2.2.2.1, y21.2.2.2.2.2.1, y21.2.2.2.2.2.2.1, y21.2.2.2.2.2.2.2.1, r20.2, y21.2.2.2.2.2.2.2.2.2)).set n22 (y25.1, y25.2.1, y25.2.2.1, y25.2.2.2.1, y25.2.2.2.2.1, y25.2.2.2.2.2.1, y25.2.2.2.2.2.2.1, y25.2.2.2.2.2.2.2.1, y25.2.2.2.2.2.2.2.2.1, r24.2, y25.2.2.2.2.2.2.2.2.2.2)).set n26 (y27.1, y27.2.1, y27.2.2.1, y27.2.2.2.1, y27.2.2.2.2.1, y27.2.2.2.2.2.1, y27.2.2.2.2.2.2.1, y27.2.2.2.2.2.2.2.1, y27.2.2.2.2.2.2.2.2.1, y27.2.2.2.2.2.2.2.2.2.1, r24.1, y27.2.2.2.2.2.2.2.2.2.2.2)).set n28 (y29.1, y29.2.1, y29.2.2.1, y29.2.2.2.1, y29.2.2.2.2.1, y29.2.2.2.2.2.1, y29.2.2.2.2.2.2.1, y29.2.2.2.2.2.2.2.1, y29.2.2.2.2.2.2.2.2.1, y29.2.2.2.2.2.2.2.2.2.1, y29.2.2.2.2.2.2.2.2.2.2.1, IntKind.wrap .i64 (r24.1 + (1 : Int)), y29.2.2.2.2.2.2.2.2.2.2.2.2))[n30]? fun y31 =>
     Option.bind (g_lmarkEdgeS (y31.2.2.2.2.2.2.2.2.2.2.2.2.1, IntKind.wrap .i64 ((IntKind.wrap .i64 (r24.1 + (1 : Int))) + (1 : Int)))) fun r32 =>
     Option.bind ((((((((((((x0.1.set n2 (x0.2.1, y3.2)).set n4 (y5.1, IntKind.wrap .i64 (x0.2.1 + (1 : Int)), y5.2.2)).set n6 (y7.1, y7.2.1, IntKind.wrap .i64 ((IntKind.wrap .i64 (x0.2.1 + (1 : Int))) + (1 : Int)), y7.2.2.2)).set n8 (y9.1, y9.2.1, y9.2.2.1, IntKind.wrap .i64 ((IntKind.wrap .i64 ((IntKind.wrap .i64 (x0.2.1 + (1 : Int))) + (1 : Int))) + (1 : Int)), y9.2.2.2.2)).set n10 (y11.1, y11.2.1, y11.2.2.1, y11.2.2.2.1, IntKind.wrap .i64 ((IntKind.wrap .i64 ((IntKind.wrap .i64 ((IntKind.wrap .i64 (x0.2.1 + (1 : Int))) + (1 : Int))) + (1 : Int))) + (1 : Int)), y11.2.2.2.2.2)).set n12 (y13.1, y13.2.1, y13.2.2.1, y13.2.2.2.1, y13.2.2.2.2.1, IntKind.wrap .i64 ((IntKind.wrap .i64 ((IntKind.wrap .i64 ((IntKind.wrap .i64 ((IntKind.wrap .i64 (x0.2.1 + (1 : Int))) + (1 : Int))) + (1 : Int))) + (1 : Int))) + (1 : Int)), y13.2.2.2.2.2.2)).set n14 (y15.1, y15.2.1, y15.2.2.1, y15.2.2.2.1, y15.2.2.2.2.1, y15.2.2.2.2.2.1, IntKind.wrap .i64 ((IntKind.wrap .i64 ((IntKind.wrap .i64 ((IntKind.wrap .i64 ((IntKind.wrap .i64 ((IntKind.wrap .i64 (x0.2.1 + (1 : Int))) + (1 : Int))) + (1 : Int))) + (1 : Int))) + (1 : Int))) + (1 : Int)), y15.2.2.2.2.2.2.2)).set n16 (y17.1, y17.2.1, y17.2.2.1, y17.2.2.2.1, y17.2.2.2.2.1, y17.2.2.2.2.2.1, y17.2.2.2.2.2.2.1, decide ((Int.tmod (IntKind.wrap .i64 ((IntKind.wrap .i64 ((IntKind.wrap .i64 ((IntKind.wrap .i64 ((IntKind.wrap .i64 ((IntKind.wrap .i64 ((IntKind.wrap .i64 (x0.2.1 + (1 : Int))) + (1 : Int))) + (1 : Int))) + (1 : Int))) + (1 : Int))) + (1 : Int))) + (1 : Int))) (3 : Int)) = (0 : Int)), y17.2.2.2.2.2.2.2.2)).set n18 (y21.1, y21.2.1, y21.2.2.1, y21.2.2.2.1, y21.2.2.2.2.1, y21.2.2.2.2.2.1, y21.2.2.2.2.2.2.1, y21.2.2.2.2.2.2.2.1, r20.2, y21.2.2.2.2.2.2.2.2.2)).set n22 (y25.1, y25.2.1, y25.2.2.1, y25.2.2.2.1, y25.2.2.2.2.1, y25.2.2.2.2.2.1, y25.2.2.2.2.2.2.1, y25.2.2.2.2.2.2.2.1, y25.2.2.2.2.2.2.2.2.1, r24.2, y25.2.2.2.2.2.2.2.2.2.2)).set n26 (y27.1, y27.2.1, y27.2.2.1, y27.2.2.2.1, y27.2.2.2.2.1, y27.2.2.2.2.2.1, y27.2.2.2.2.2.2.1, y27.2.2.2.2.2.2.2.1, y27.2.2.2.2.2.2.2.2.1, y27.2.2.2.2.2.2.2.2.2.1, r24.1, y27.2.2.2.2.2.2.2.2.2.2.2)).set n28 (y29.1, y29.2.1, y29.2.2.1, y29.2.2.2.1, y29.2.2.2.2.1, y29.2.2.2.2.2.1, y29.2.2.2.2.2.2.1, y29.2.2.2.2.2.2.2.1, y29.2.2.2.2.2.2.2.2.1, y29.2.2.2.2.2.2.2.2.2.1, y29.2.2.2.2.2.2.2.2.2.2.1, IntKind.wrap .i64 (r24.1 + (1 : Int)), y29.2.2.2.2.2.2.2.2.2.2.2.2))[n30]? fun y33 =>
     bnd (((((((((((((x0.1.set n2 (x0.2.1, y3.2)).set n4 (y5.1, IntKind.wrap .i64 (x0.2.1 + (1 : Int)), y5.2.2)).set n6 (y7.1, y7.2.1, IntKind.wrap .i64 ((IntKind.wrap .i64 (x0.2.1 + (1 : Int))) + (1 : Int)), y7.2.2.2)).set n8 (y9.1, y9.2.1, y9.2.2.1, IntKind.wrap .i64 ((IntKind.wrap .i64 ((IntKind.wrap .i64 (x0.2.1 + (1 : Int))) + (1 : Int))) + (1 : Int)), y9.2.2.2.2)).set n10 (y11.1, y11.2.1, y11.2.2.1, y11.2.2.2.1, IntKind.wrap .i64 ((IntKind.wrap .i64 ((IntKind.wrap .i64 ((IntKind.wrap .i64 (x0.2.1 + (1 : Int))) + (1 : Int))) + (1 : Int))) + (1 : Int)), y11.2.2.2.2.2)).set n12 (y13.1, y13.2.1, y13.2.2.1, y13.2.2.2.1, y13.2.2.2.2.1, IntKind.wrap .i64 ((IntKind.wrap .i64 ((IntKind.wrap .i64 ((IntKind.wrap .i64 ((IntKind.wrap .i64 (x0.2.1 + (1 : Int))) + (1 : Int))) + (1 : Int))) + (1 : Int))) + (1 : Int)), y13.2.2.2.2.2.2)).set n14 (y15.1, y15.2.1, y15.2.2.1, y15.2.2.2.1, y15.2.2.2.2.1, y15.2.2.2.2.2.1, IntKind.wrap .i64 ((IntKind.wrap .i64 ((IntKind.wrap .i64 ((IntKind.wrap .i64 ((IntKind.wrap .i64 ((IntKind.wrap .i64 (x0.2.1 + (1 : Int))) + (1 : Int))) + (1 : Int))) + (1 : Int))) + (1 : Int))) + (1 : Int)), y15.2.2.2.2.2.2.2)).set n16 (y17.1, y17.2.1, y17.2.2.1, y17.2.2.2.1, y17.2.2.2.2.1, y17.2.2.2.2.2.1, y17.2.2.2.2.2.2.1, decide ((Int.tmod (IntKind.wrap .i64 ((IntKind.wrap .i64 ((IntKind.wrap .i64 ((IntKind.wrap .i64 ((IntKind.wrap .i64 ((IntKind.wrap .i64 ((IntKind.wrap .i64 (x0.2.1 + (1 : Int))) + (1 : Int))) + (1 : Int))) + (1 : Int))) + (1 : Int))) + (1 : Int))) + (1 : Int))) (3 : Int)) = (0 : Int)), y17.2.2.2.2.2.2.2.2)).set n18 (y21.1, y21.2.1, y21.2.2.1, y21.2.2.2.1, y21.2.2.2.2.1, y21.2.2.2.2.2.1, y21.2.2.2.2.2.2.1, y21.2.2.2.2.2.2.2.1, r20.2, y21.2.2.2.2.2.2.2.2.2)).set n22 (y25.1, y25.2.1, y25.2.2.1, y25.2.2.2.1, y25.2.2.2.2.1, y25.2.2.2.2.2.1, y25.2.2.2.2.2.2.1, y25.2.2.2.2.2.2.2.1, y25.2.2.2.2.2.2.2.2.1, r24.2, y25.2.2.2.2.2.2.2.2.2.2)).set n26 (y27.1, y27.2.1, y27.2.2.1, y27.2.2.2.1, y27.2.2.2.2.1, y27.2.2.2.2.2.1, y27.2.2.2.2.2.2.1, y27.2.2.2.2.2.2.2.1, y27.2.2.2.2.2.2.2.2.1, y27.2.2.2.2.2.2.2.2.2.1, r24.1, y27.2.2.2.2.2.2.2.2.2.2.2)).set n28 (y29.1, y29.2.1, y29.2.2.1, y29.2.2.2.1, y29.2.2.2.2.1, y29.2.2.2.2.2.1, y29.2.2.2.2.2.2.1, y29.2.2.2.2.2.2.2.1, y29.2.2.2.2.2.2.2.2.1, y29.2.2.2.2.2.2.2.2.2.1, y29.2.2.2.2.2.2.2.2.2.2.1, IntKind.wrap .i64 (r24.1 + (1 : Int)), y29.2.2.2.2.2.2.2.2.2.2.2.2)).set n30 (y33.1, y33.2.1, y33.2.2.1, y33.2.2.2.1, y33.2.2.2.2.1, y33.2.2.2.2.2.1, y33.2.2.2.2.2.2.1, y33.2.2.2.2.2.2.2.1, y33.2.2.2.2.2.2.2.2.1, y33.2.2.2.2.2.2.2.2.2.1, y33.2.2.2.2.2.2.2.2.2.2.1, y33.2.2.2.2.2.2.2.2.2.2.2.1, r32.2, y33.2.2.2.2.2.2.2.2.2.2.2.2.2)).length x0.2.2 fun n34 =>
     Option.bind (((((((((((((x0.1.set n2 (x0.2.1, y3.2)).set n4 (y5.1, IntKind.wrap .i64 (x0.2.1 + (1 : Int)), y5.2.2)).set n6 (y7.1, y7.2.1, IntKind.wrap .i64 ((IntKind.wrap .i64 (x0.2.1 + (1 : Int))) + (1 : Int)), y7.2.2.2)).set n8 (y9.1, y9.2.1, y9.2.2.1, IntKind.wrap .i64 ((IntKind.wrap .i64 ((IntKind.wrap .i64 (x0.2.1 + (1 : Int))) + (1 : Int))) + (1 : Int)), y9.2.2.2.2)).set n10 (y11.1, y11.2.1, y11.2.2.1, y11.2.2.2.1, IntKind.wrap .i64 ((IntKind.wrap .i64 ((IntKind.wrap .i64 ((IntKind.wrap .i64 (x0.2.1 + (1 : Int))) + (1 : Int))) + (1 : Int))) + (1 : Int)), y11.2.2.2.2.2)).set n12 (y13.1, y13.2.1, y13.2.2.1, y13.2.2.2.1, y13.2.2.2.2.1, IntKind.wrap .i64 ((IntKind.wrap .i64 ((IntKind.wrap .i64 ((IntKind.wrap .i64 ((IntKind.wrap .i64 (x0.2.1 + (1 : Int))) + (1 : Int))) + (1 : Int))) + (1 : Int))) + (1 : Int)), y13.2.2.2.2.2.2)).set n14 (y15.1, y15.2.1, y15.2.2.1, y15.2.2.2.1, y15.2.2.2.2.1, y15.2.2.2.2.2.1, IntKind.wrap .i64 ((IntKind.wrap .i64 ((IntKind.wrap .i64 ((IntKind.wrap .i64 ((IntKind.wrap .i64 ((IntKind.wrap .i64 (x0.2.1 + (1 : Int))) + (1 : Int))) + (1 : Int))) + (1 : Int))) + (1 : Int))) + (1 : Int)), y15.2.2.2.2.2.2.2)).set n16 (y17.1, y17.2.1, y17.2.2.1, y17.2.2.2.1, y17.2.2.2.2.1, y17.2.2.2.2.2.1, y17.2.2.2.2.2.2.1, decide ((Int.tmod (IntKind.wrap .i64 ((IntKind.wrap .i64 ((IntKind.wrap .i64 ((IntKind.wrap .i64 ((IntKind.wrap .i64 ((IntKind.wrap .i64 ((IntKind.wrap .i64 (x0.2.1 + (1 : Int))) + (1 : Int))) + (1 : Int))) + (1 : Int))) + (1 : Int))) + (1 : Int))) + (1 : Int))) (3 : Int)) = (0 : Int)), y17.2.2.2.2.2.2.2.2)).set n18 (y21.1, y21.2.1, y21.2.2.1, y21.2.2.2.1, y21.2.2.2.2.1, y21.2.2.2.2.2.1, y21.2.2.2.2.2.2.1, y21.2.2.2.2.2.2.2.1, r20.2, y21.2.2.2.2.2.2.2.2.2)).set n22 (y25.1, y25.2.1, y25.2.2.1, y25.2.2.2.1, y25.2.2.2.2.1, y25.2.2.2.2.2.1, y25.2.2.2.2.2.2.1, y25.2.2.2.2.2.2.2.1, y25.2.2.2.2.2.2.2.2.1, r24.2, y25.2.2.2.2.2.2.2.2.2.2)).set n26 (y27.1, y27.2.1, y27.2.2.1, y27.2.2.2.1, y27.2.2.2.2.1, y27.2.2.2.2.2.1, y27.2.2.2.2.2.2.1, y27.2.2.2.2.2.2.2.1, y27.2.2.2.2.2.2.2.2.1, y27.2.2.2.2.2.2.2.2.2.1, r24.1, y27.2.2.2.2.2.2.2.2.2.2.2)).set n28 (y29.1, y29.2.1, y29.2.2.1, y29.2.2.2.1, y29.2.2.2.2.1, y29.2.2.2.2.2.1, y29.2.2.2.2.2.2.1, y29.2.2.2.2.2.2.2.1, y29.2.2.2.2.2.2.2.2.1, y29.2.2.2.2.2.2.2.2.2.1, y29.2.2.2.2.2.2.2.2.2.2.1, IntKind.wrap .i64 (r24.1 + (1 : Int)), y29.2.2.2.2.2.2.2.2.2.2.2.2)).set n30 (y33.1, y33.2.1, y33.2.2.1, y33.2.2.2.1, y33.2.2.2.2.1, y33.2.2.2.2.2.1, y33.2.2.2.2.2.2.1, y33.2.2.2.2.2.2.2.1, y33.2.2.2.2.2.2.2.2.1, y33.2.2.2.2.2.2.2.2.2.1, y33.2.2.2.2.2.2.2.2.2.2.1, y33.2.2.2.2.2.2.2.2.2.2.2.1, r32.2, y33.2.2.2.2.2.2.2.2.2.2.2.2.2))[n34]? fun y35 =>
     self1 ((((((((((((((x0.1.set n2 (x0.2.1, y3.2)).set n4 (y5.1, IntKind.wrap .i64 (x0.2.1 + (1 : Int)), y5.2.2)).set n6 (y7.1, y7.2.1, IntKind.wrap .i64 ((IntKind.wrap .i64 (x0.2.1 + (1 : Int))) + (1 : Int)), y7.2.2.2)).set n8 (y9.1, y9.2.1, y9.2.2.1, IntKind.wrap .i64 ((IntKind.wrap .i64 ((IntKind.wrap .i64 (x0.2.1 + (1 : Int))) + (1 : Int))) + (1 : Int)), y9.2.2.2.2)).set n10 (y11.1, y11.2.1, y11.2.2.1, y11.2.2.2.1, IntKind.wrap .i64 ((IntKind.wrap .i64 ((IntKind.wrap .i64 ((IntKind.wrap .i64 (x0.2.1 + (1 : Int))) + (1 : Int))) + (1 : Int))) + (1 : Int)), y11.2.2.2.2.2)).set n12 (y13.1, y13.2.1, y13.2.2.1, y13.2.2.2.1, y13.2.2.2.2.1, IntKind.wrap .i64 ((IntKind.wrap .i64 ((IntKind.wrap .i64 ((IntKind.wrap .i64 ((IntKind.wrap .i64 (x0.2.1 + (1 : Int))) + (1 : Int))) + (1 : Int))) + (1 : Int))) + (1 : Int)), y13.2.2.2.2.2.2)).set n14 (y15.1, y15.2.1, y15.2.2.1, y15.2.2.2.1, y15.2.2.2.2.1, y15.2.2.2.2.2.1, IntKind.wrap .i64 ((IntKind.wrap .i64 ((IntKind.wrap .i64 ((IntKind.wrap .i64 ((IntKind.wrap .i64 ((IntKind.wrap .i64 (x0.2.1 + (1 : Int))) + (1 : Int))) + (1 : Int))) + (1 : Int))) + (1 : Int))) + (1 : Int)), y15.2.2.2.2.2.2.2)).set n16 (y17.1, y17.2.1, y17.2.2.1, y17.2.2.2.1, y17.2.2.2.2.1, y17.2.2.2.2.2.1, y17.2.2.2.2.2.2.1, decide ((Int.tmod (IntKind.wrap .i64 ((IntKind.wrap .i64 ((IntKind.wrap .i64 ((IntKind.wrap .i64 ((IntKind.wrap .i64 ((IntKind.wrap .i64 ((IntKind.wrap .i64 (x0.2.1 + (1 : Int))) + (1 : Int))) + (1 : Int))) + (1 : Int))) + (1 : Int))) + (1 : Int))) + (1 : Int))) (3 : Int)) = (0 : Int)), y17.2.2.2.2.2.2.2.2)).set n18 (y21.1, y21.2.1, y21.2.2.1, y21.2.2.2.1, y21.2.2.2.2.1, y21.2.2.2.2.2.1, y21.2.2.2.2.2.2.1, y21.2.2.2.2.2.2.2.1, r20.2, y21.2.2.2.2.2.2.2.2.2)).set n22 (y25.1, y25.2.1, y25.2.2.1, y25.2.2.2.1, y25.2.2.2.2.1, y25.2.2.2.2.2.1, y25.2.2.2.2.2.2.1, y25.2.2.2.2.2.2.2.1, y25.2.2.2.2.2.2.2.2.1, r24.2, y25.2.2.2.2.2.2.2.2.2.2)).set n26 (y27.1, y27.2.1, y27.2.2.1, y27.2.2.2.1, y27.2.2.2.2.1, y27.2.2.2.2.2.1, y27.2.2.2.2.2.2.1, y27.2.2.2.2.2.2.2.1, y27.2.2.2.2.2.2.2.2.1, y27.2.2.2.2.2.2.2.2.2.1, r24.1, y27.2.2.2.2.2.2.2.2.2.2.2)).set n28 (y29.1, y29.2.1, y29.2.2.1, y29.2.2.2.1, y29.2.2.2.2.1, y29.2.2.2.2.2.1, y29.2.2.2.2.2.2.1, y29.2.2.2.2.2.2.2.1, y29.2.2.2.2.2.2.2.2.1, y29.2.2.2.2.2.2.2.2.2.1, y29.2.2.2.2.2.2.2.2.2.2.1, IntKind.wrap .i64 (r24.1 + (1 : Int)), y29.2.2.2.2.2.2.2.2.2.2.2.2)).set n30 (y33.1, y33.2.1, y33.2.2.1, y33.2.2.2.1, y33.2.2.2.2.1, y33.2.2.2.2.2.1, y33.2.2.2.2.2.2.1, y33.2.2.2.2.2.2.2.1, y33.2.2.2.2.2.2.2.2.1, y33.2.2.2.2.2.2.2.2.2.1, y33.2.2.2.2.2.2.2.2.2.2.1, y33.2.2.2.2.2.2.2.2.2.2.2.1, r32.2, y33.2.2.2.2.2.2.2.2.2.2.2.2.2)).set n34 (y35.1, y35.2.1, y35.2.2.1, y35.2.2.2.1, y35.2.2.2.2.1, y35.2.2.2.2.2.1, y35.2.2.2.2.2.2.1, y35.2.2.2.2.2.2.2.1, y35.2.2.2.2.2.2.2.2.1, y35.2.2.2.2.2.2.2.2.2.1, y35.2.2.2.2.2.2.2.2.2.2.1, y35.2.2.2.2.2.2.2.2.2.2.2.1, y35.2.2.2.2.2.2.2.2.2.2.2.2.1, r32.1), IntKind.wrap .i64 (r32.1 + (1 : Int)), IntKind.wrap .i64 (x0.2.2 + (1 : Int)))
    else some (x0.1, x0.2.1)) (a0, a1, (0 : Int)) : Option ((List (Int × Int × Int × Int × Int × Int × Int × Bool × (List (Int × Int)) × (List (Int)) × Int × Int × (List (Int × Int)) × Int)) × Int)) fun x36 =>
  some (x36.2, x36.1) := by kernel_rfl
/- laws.markWorld -/
def c_lmarkWorld : TC :=
 (.seq (.rg [⟨false, [], [], .det 2 (.a (.t 0)), [2, 0], (some 2), none⟩,
   o1 4 (.lit [.i .i64] [.int .i64 (0)])])
 (.seq (.rg [o1 5 (.idx .nil),
   o1 6 (.load 2 [] 1 (.t 5) 15 true),
   o1 7 (.copy 1),
   ⟨false, [], [], .call 2 76 [.t 6, .t 7] (.mt 2 [] 1 6 0), [8, 2, 6], (some 8), none⟩,
   o1 1 (.copy 8)])
 (.seq (.rg [o1 9 (.idx .nil),
   o1 10 (.load 2 [] 16 (.t 9) 1 true),
   o1 11 (.copy 1),
   ⟨false, [], [], .call 2 219 [.t 10, .t 11] (.mt 2 [] 16 10 0), [12, 2, 10], (some 12), none⟩,
   o1 1 (.copy 12)])
 (.seq (.rg [o1 13 (.idx .nil),
   o1 14 (.load 2 [] 17 (.t 13) 1 true),
   o1 15 (.copy 1),
   ⟨false, [], [], .call 2 220 [.t 14, .t 15] (.mt 2 [] 17 14 0), [16, 2, 14], (some 16), none⟩,
   o1 1 (.copy 16)])
 (.seq (.rg [o1 17 (.idx .nil),
   o1 18 (.load 2 [] 18 (.t 17) 1 true),
   o1 19 (.copy 1),
   ⟨false, [], [], .call 2 221 [.t 18, .t 19] (.mt 2 [] 18 18 0), [20, 2, 18], (some 20), none⟩,
   o1 1 (.copy 20)])
 (.seq (.rg [o1 21 (.idx .nil),
   o1 22 (.load 2 [] 19 (.t 21) 1 true),
   o1 23 (.copy 1),
   ⟨false, [], [], .call 2 222 [.t 22, .t 23] (.mt 2 [] 19 22 0), [24, 2, 22], (some 24), none⟩,
   o1 1 (.copy 24)])
 (.seq (.rg [o1 25 (.idx .nil),
   o1 26 (.load 2 [] 20 (.t 25) 1 true),
   o1 27 (.copy 1),
   ⟨false, [], [], .call 2 223 [.t 26, .t 27] (.mt 2 [] 20 26 0), [28, 2, 26], (some 28), none⟩,
   o1 1 (.copy 28)])
 (.seq (.rg [o1 29 (.idx .nil),
   o1 30 (.load 2 [] 21 (.t 29) 1 true),
   o1 31 (.copy 1),
   ⟨false, [], [], .call 2 57 [.t 30, .t 31] (.mt 2 [] 21 30 0), [32, 2, 30], (some 32), none⟩,
   o1 1 (.copy 32)])
 (.seq (.rg [o1 33 (.copy 1),
   o1 4 (.copy 33)])
 .ret)))))))))
def s_lmarkWorld : Sig := ⟨[.mt true [.d, .d, .sl (.own none) [.d], .sl (.own none) [.d, .d], .sl (.own none) [.sl (.own none) [.d]], .sl (.own none) [.d], .d, .d, .d, .d, .d, .d, .d, .sl (.own none) [.d, .d], .d, .sl (.own none) [.d, .d, .d, .d, .d, .d], .sl (.own none) [.d, .d, .sl (.own none) [.d, .d, .d, .d], .d, .d, .sl (.own none) [.d, .d], .sl (.own none) [.d]], .sl (.own none) [.sl (.own none) [.d, .d, .d]], .sl (.own none) [.d], .sl (.own none) [.d, .d, .d], .sl (.own none) [.d, .d, .d, .d, .d, .d, .d], .sl (.own none) [.d, .d, .d, .d, .d, .d, .d, .d, .sl (.own none) [.d, .d], .sl (.own none) [.d], .d, .d, .sl (.own none) [.d, .d], .d]], .rd false [.d]], (.one false [.d])⟩
noncomputable def E_lmarkWorld : TEnv := envOf [(76, p_lmarkHead), (219, p_lmarkShardS), (220, p_lmarkDiskS), (221, p_lmarkBoolS), (222, p_lmarkPacketS), (223, p_lmarkCallS), (57, p_lmarkRecS)]
noncomputable def f_lmarkWorld (n : Nat) : (Int × Int × List (Int) × List (Int × Int) × List (List (Int)) × List (Int) × Int × Int × Int × Int × Int × Int × Int × List (Int × Int) × Int × List (Int × Int × Int × Int × Int × Int) × List (Int × Int × List (Int × Int × Int × Bool) × Int × Bool × List (Int × Int) × List (Int)) × List (List (ByteArray × ByteArray × Int)) × List (Bool) × List (Int × Int × ByteArray) × List (Int × Int × Int × Int × Int × Int × Int) × List (Int × Int × Int × Int × Int × Int × Int × Bool × List (Int × Int) × List (Int) × Int × Int × List (Int × Int) × Int)) × Int → Option ((Int) × Int × Int × List (Int) × List (Int × Int) × List (List (Int)) × List (Int) × Int × Int × Int × Int × Int × Int × Int × List (Int × Int) × Int × List (Int × Int × Int × Int × Int × Int) × List (Int × Int × List (Int × Int × Int × Bool) × Int × Bool × List (Int × Int) × List (Int)) × List (List (ByteArray × ByteArray × Int)) × List (Bool) × List (Int × Int × ByteArray) × List (Int × Int × Int × Int × Int × Int × Int) × List (Int × Int × Int × Int × Int × Int × Int × Bool × List (Int × Int) × List (Int) × Int × Int × List (Int × Int) × Int)) := runFn n E_lmarkWorld c_lmarkWorld [[.i .i64, .i .i64, .sl [.i .i64], .sl [.i .i64, .i .i64], .sl [.sl [.i .i64]], .sl [.i .i64], .i .i64, .i .i64, .i .i64, .i .i64, .i .i64, .i .i64, .i .i64, .sl [.i .i64, .i .i64], .i .i64, .sl [.i .i64, .i .i64, .i .i64, .i .i64, .i .i64, .i .i64], .sl [.i .i64, .i .i64, .sl [.i .i64, .i .i64, .i .i64, .b], .i .i64, .b, .sl [.i .i64, .i .i64], .sl [.i .i64]], .sl [.sl [.s, .s, .i .i64]], .sl [.b], .sl [.i .i64, .i .i64, .s], .sl [.i .i64, .i .i64, .i .i64, .i .i64, .i .i64, .i .i64, .i .i64], .sl [.i .i64, .i .i64, .i .i64, .i .i64, .i .i64, .i .i64, .i .i64, .b, .sl [.i .i64, .i .i64], .sl [.i .i64], .i .i64, .i .i64, .sl [.i .i64, .i .i64], .i .i64]], [.i .i64]] [.i .i64] [.i .i64, .i .i64, .sl [.i .i64], .sl [.i .i64, .i .i64], .sl [.sl [.i .i64]], .sl [.i .i64], .i .i64, .i .i64, .i .i64, .i .i64, .i .i64, .i .i64, .i .i64, .sl [.i .i64, .i .i64], .i .i64, .sl [.i .i64, .i .i64, .i .i64, .i .i64, .i .i64, .i .i64], .sl [.i .i64, .i .i64, .sl [.i .i64, .i .i64, .i .i64, .b], .i .i64, .b, .sl [.i .i64, .i .i64], .sl [.i .i64]], .sl [.sl [.s, .s, .i .i64]], .sl [.b], .sl [.i .i64, .i .i64, .s], .sl [.i .i64, .i .i64, .i .i64, .i .i64, .i .i64, .i .i64, .i .i64], .sl [.i .i64, .i .i64, .i .i64, .i .i64, .i .i64, .i .i64, .i .i64, .b, .sl [.i .i64, .i .i64], .sl [.i .i64], .i .i64, .i .i64, .sl [.i .i64, .i .i64], .i .i64]] [4] (.mt 0 2 0)
noncomputable def g_lmarkWorld := f_lmarkWorld BIG
noncomputable def p_lmarkWorld : TSp := ⟨s_lmarkWorld, [[.i .i64, .i .i64, .sl [.i .i64], .sl [.i .i64, .i .i64], .sl [.sl [.i .i64]], .sl [.i .i64], .i .i64, .i .i64, .i .i64, .i .i64, .i .i64, .i .i64, .i .i64, .sl [.i .i64, .i .i64], .i .i64, .sl [.i .i64, .i .i64, .i .i64, .i .i64, .i .i64, .i .i64], .sl [.i .i64, .i .i64, .sl [.i .i64, .i .i64, .i .i64, .b], .i .i64, .b, .sl [.i .i64, .i .i64], .sl [.i .i64]], .sl [.sl [.s, .s, .i .i64]], .sl [.b], .sl [.i .i64, .i .i64, .s], .sl [.i .i64, .i .i64, .i .i64, .i .i64, .i .i64, .i .i64, .i .i64], .sl [.i .i64, .i .i64, .i .i64, .i .i64, .i .i64, .i .i64, .i .i64, .b, .sl [.i .i64, .i .i64], .sl [.i .i64], .i .i64, .i .i64, .sl [.i .i64, .i .i64], .i .i64]], [.i .i64]], [.i .i64], [.i .i64, .i .i64, .sl [.i .i64], .sl [.i .i64, .i .i64], .sl [.sl [.i .i64]], .sl [.i .i64], .i .i64, .i .i64, .i .i64, .i .i64, .i .i64, .i .i64, .i .i64, .sl [.i .i64, .i .i64], .i .i64, .sl [.i .i64, .i .i64, .i .i64, .i .i64, .i .i64, .i .i64], .sl [.i .i64, .i .i64, .sl [.i .i64, .i .i64, .i .i64, .b], .i .i64, .b, .sl [.i .i64, .i .i64], .sl [.i .i64]], .sl [.sl [.s, .s, .i .i64]], .sl [.b], .sl [.i .i64, .i .i64, .s], .sl [.i .i64, .i .i64, .i .i64, .i .i64, .i .i64, .i .i64, .i .i64], .sl [.i .i64, .i .i64, .i .i64, .i .i64, .i .i64, .i .i64, .i .i64, .b, .sl [.i .i64, .i .i64], .sl [.i .i64], .i .i64, .i .i64, .sl [.i .i64, .i .i64], .i .i64]], Ou.j (.mt 0 2 0), g_lmarkWorld⟩
theorem k_lmarkWorld : chkW PG E_lmarkWorld 88 s_lmarkWorld (c_lmarkWorld.ht 34) (.mt 0 2 0) = some (c_lmarkWorld.wc E_lmarkWorld, [4]) := by kernel_rfl
theorem ok_lmarkWorld : p_lmarkWorld.Ok PG 88 := mkOk (env_cons ok_lmarkHead (env_cons ok_lmarkShardS (env_cons ok_lmarkDiskS (env_cons ok_lmarkBoolS (env_cons ok_lmarkPacketS (env_cons ok_lmarkCallS (env_cons ok_lmarkRecS (env_nil PG)))))))) k_lmarkWorld (by kernel_rfl)
theorem e_lmarkWorld (n : Nat) (a0 : Int × Int × List (Int) × List (Int × Int) × List ((List (Int))) × List (Int) × Int × Int × Int × Int × Int × Int × Int × List (Int × Int) × Int × List (Int × Int × Int × Int × Int × Int) × List (Int × Int × (List (Int × Int × Int × Bool)) × Int × Bool × (List (Int × Int)) × (List (Int))) × List ((List (ByteArray × ByteArray × Int))) × List (Bool) × List (Int × Int × ByteArray) × List (Int × Int × Int × Int × Int × Int × Int) × List (Int × Int × Int × Int × Int × Int × Int × Bool × (List (Int × Int)) × (List (Int)) × Int × Int × (List (Int × Int)) × Int)) (a1 : Int) : f_lmarkWorld n (a0, a1) =
  Option.bind (g_lmarkHead ((a0.2.1, a0.2.2.1, a0.2.2.2.1, a0.2.2.2.2.1, a0.2.2.2.2.2.1, a0.2.2.2.2.2.2.1, a0.2.2.2.2.2.2.2.1, a0.2.2.2.2.2.2.2.2.1, a0.2.2.2.2.2.2.2.2.2.1, a0.2.2.2.2.2.2.2.2.2.2.1, a0.2.2.2.2.2.2.2.2.2.2.2.1, a0.2.2.2.2.2.2.2.2.2.2.2.2.1, a0.2.2.2.2.2.2.2.2.2.2.2.2.2.1, a0.2.2.2.2.2.2.2.2.2.2.2.2.2.2.1, a0.2.2.2.2.2.2.2.2.2.2.2.2.2.2.2.1), a1)) fun r0 =>
  Option.bind (g_lmarkShardS (a0.2.2.2.2.2.2.2.2.2.2.2.2.2.2.2.2.1, r0.1)) fun r1 =>
  Option.bind (g_lmarkDiskS (a0.2.2.2.2.2.2.2.2.2.2.2.2.2.2.2.2.2.1, r1.1)) fun r2 =>
  Option.bind (g_lmarkBoolS (a0.2.2.2.2.2.2.2.2.2.2.2.2.2.2.2.2.2.2.1, r2.1)) fun r3 =>
  Option.bind (g_lmarkPacketS (a0.2.2.2.2.2.2.2.2.2.2.2.2.2.2.2.2.2.2.2.1, r3.1)) fun r4 =>
  Option.bind (g_lmarkCallS (a0.2.2.2.2.2.2.2.2.2.2.2.2.2.2.2.2.2.2.2.2.1, r4.1)) fun r5 =>
  Option.bind (g_lmarkRecS (a0.2.2.2.2.2.2.2.2.2.2.2.2.2.2.2.2.2.2.2.2.2, r5.1)) fun r6 =>
  some (r6.1, (a0.1, a0.2.1, r0.2.2.1, r0.2.2.2.1, r0.2.2.2.2.1, r0.2.2.2.2.2.1, a0.2.2.2.2.2.2.1, a0.2.2.2.2.2.2.2.1, a0.2.2.2.2.2.2.2.2.1, a0.2.2.2.2.2.2.2.2.2.1, a0.2.2.2.2.2.2.2.2.2.2.1, a0.2.2.2.2.2.2.2.2.2.2.2.1, a0.2.2.2.2.2.2.2.2.2.2.2.2.1, r0.2.2.2.2.2.2.2.2.2.2.2.2.2.1, a0.2.2.2.2.2.2.2.2.2.2.2.2.2.2.1, r0.2.2.2.2.2.2.2.2.2.2.2.2.2.2.2, r1.2, r2.2, r3.2, r4.2, r5.2, r6.2)) := by kernel_rfl
/- laws.heldIntS -/
def c_lheldIntS : TC :=
 (.seq (.rg [o1 4 (.lit [.i .i64] [.int .i64 (0)])])
 (.seq (.join [⟨1, [.i .i64], false⟩] 1048562 (some [⟨4, [.i .i64], false⟩]) (.seq (.rg [o1 5 (.lit [.i .i64] [.int .i64 (0)])])
 (.block 0 (.loop [⟨1, [.i .i64], false⟩, ⟨5, [.i .i64], false⟩] 1048562
  (.seq (.seq (.rg [o1 6 (.copy 5),
    o1 7 (.copy 0),
    o1 8 (.len 7),
    o1 9 (.data (.bin .lss) [.t 6, .t 8])])
  (.cond (.t 9)
   .skip
   (.exit 0)))
  (.seq (.block 1 (.seq (.seq (.rg [o1 12 (.copy 0),
    o1 13 (.copy 5),
    o1 14 (.index 12 (.t 13)),
    o1 15 (.load 12 [(0, 1)] 0 (.t 14) 1 false),
    o1 16 (.copy 1),
    o1 17 (.data (.bin .neq) [.t 15, .t 16])])
  (.cond (.t 17)
   (.seq (.rg [o1 4 (.lit [.i .i64] [.int .i64 (-1)])])
   .ret)
   .skip))
  (.rg [o1 18 (.copy 1),
    o1 19 (.data (.bin .add) [.t 18, .c (.int .i64 (1))]),
    o1 1 (.copy 19)])))
  (.rg [o1 10 (.copy 5),
    o1 11 (.data (.bin .add) [.t 10, .c (.int .i64 (1))]),
    o1 5 (.copy 11)])))))))
 (.seq (.rg [o1 20 (.copy 1),
   o1 4 (.copy 20)])
 .ret)))
def s_lheldIntS : Sig := ⟨[.rd false [.sl (.own none) [.d]], .rd false [.d]], (.one false [.d])⟩
noncomputable def E_lheldIntS : TEnv := envOf []
noncomputable def f_lheldIntS (n : Nat) : List (Int) × Int → Option ((Int) × Unit) := runFn n E_lheldIntS c_lheldIntS [[.sl [.i .i64]], [.i .i64]] [.i .i64] [] [4] .no
noncomputable def g_lheldIntS := f_lheldIntS BIG
noncomputable def p_lheldIntS : TSp := ⟨s_lheldIntS, [[.sl [.i .i64]], [.i .i64]], [.i .i64], [], Ou.j .no, g_lheldIntS⟩
theorem k_lheldIntS : chkW PG E_lheldIntS 149 s_lheldIntS (c_lheldIntS.ht 21) .no = some (c_lheldIntS.wc E_lheldIntS, [4]) := by kernel_rfl
theorem ok_lheldIntS : p_lheldIntS.Ok PG 149 := mkOk (env_nil PG) k_lheldIntS (by kernel_rfl)
theorem e_lheldIntS (n : Nat) (a0 : List (Int)) (a1 : Int) : f_lheldIntS n (a0, a1) =
  Option.bind (loopT n (X := Int × Int) (B := (Int) ⊕ (Int)) (fun self1 x0 =>
    bif decide (x0.2 < (a0.length : Int)) then
     bnd a0.length x0.2 fun n2 =>
     Option.bind a0[n2]? fun y3 =>
     bif !decide (y3 = x0.1) then
      some (Sum.inr (-1 : Int))
     else self1 (IntKind.wrap .i64 (x0.1 + (1 : Int)), IntKind.wrap .i64 (x0.2 + (1 : Int)))
    else some (Sum.inl x0.1)) (a1, (0 : Int)) : Option ((Int) ⊕ (Int))) fun y => match y with
  | .inl x4 =>
   some (x4, ())
  | .inr x4 =>
   some (x4, ()) := by kernel_rfl
/- laws.heldEdgeS -/
def c_lheldEdgeS : TC :=
 (.seq (.rg [o1 4 (.lit [.i .i64] [.int .i64 (0)])])
 (.seq (.join [⟨1, [.i .i64], false⟩] 1073741810 (some [⟨4, [.i .i64], false⟩]) (.seq (.rg [o1 5 (.lit [.i .i64] [.int .i64 (0)])])
 (.block 0 (.loop [⟨1, [.i .i64], false⟩, ⟨5, [.i .i64], false⟩] 1073741810
  (.seq (.seq (.rg [o1 6 (.copy 5),
    o1 7 (.copy 0),
    o1 8 (.len 7),
    o1 9 (.data (.bin .lss) [.t 6, .t 8])])
  (.cond (.t 9)
   .skip
   (.exit 0)))
  (.seq (.block 1 (.seq (.seq (.rg [o1 12 (.copy 0),
    o1 13 (.copy 5),
    o1 14 (.index 12 (.t 13)),
    o1 15 (.idx (.t 14)),
    o1 16 (.load 12 [(0, 2)] 0 (.t 15) 1 false),
    o1 17 (.copy 1),
    o1 18 (.data (.bin .neq) [.t 16, .t 17])])
  (.cond (.t 18)
   (.seq (.rg [o1 4 (.lit [.i .i64] [.int .i64 (-1)])])
   .ret)
   .skip))
  (.seq (.rg [o1 19 (.copy 1),
    o1 20 (.data (.bin .add) [.t 19, .c (.int .i64 (1))]),
    o1 1 (.copy 20)])
  (.seq (.seq (.rg [o1 21 (.copy 0),
    o1 22 (.copy 5),
    o1 23 (.index 21 (.t 22)),
    o1 24 (.idx (.t 23)),
    o1 25 (.load 21 [(0, 2)] 1 (.t 24) 1 false),
    o1 26 (.copy 1),
    o1 27 (.data (.bin .neq) [.t 25, .t 26])])
  (.cond (.t 27)
   (.seq (.rg [o1 4 (.lit [.i .i64] [.int .i64 (-1)])])
   .ret)
   .skip))
  (.rg [o1 28 (.copy 1),
    o1 29 (.data (.bin .add) [.t 28, .c (.int .i64 (1))]),
    o1 1 (.copy 29)])))))
  (.rg [o1 10 (.copy 5),
    o1 11 (.data (.bin .add) [.t 10, .c (.int .i64 (1))]),
    o1 5 (.copy 11)])))))))
 (.seq (.rg [o1 30 (.copy 1),
   o1 4 (.copy 30)])
 .ret)))
def s_lheldEdgeS : Sig := ⟨[.rd false [.sl (.own none) [.d, .d]], .rd false [.d]], (.one false [.d])⟩
noncomputable def E_lheldEdgeS : TEnv := envOf []
noncomputable def f_lheldEdgeS (n : Nat) : (List (Int × Int)) × Int → Option ((Int) × Unit) := runFn n E_lheldEdgeS c_lheldEdgeS [[.sl [.i .i64, .i .i64]], [.i .i64]] [.i .i64] [] [4] .no
noncomputable def g_lheldEdgeS := f_lheldEdgeS BIG
noncomputable def p_lheldEdgeS : TSp := ⟨s_lheldEdgeS, [[.sl [.i .i64, .i .i64]], [.i .i64]], [.i .i64], [], Ou.j .no, g_lheldEdgeS⟩
theorem k_lheldEdgeS : chkW PG E_lheldEdgeS 148 s_lheldEdgeS (c_lheldEdgeS.ht 31) .no = some (c_lheldEdgeS.wc E_lheldEdgeS, [4]) := by kernel_rfl
theorem ok_lheldEdgeS : p_lheldEdgeS.Ok PG 148 := mkOk (env_nil PG) k_lheldEdgeS (by kernel_rfl)
theorem e_lheldEdgeS (n : Nat) (a0 : List (Int × Int)) (a1 : Int) : f_lheldEdgeS n (a0, a1) =
  Option.bind (loopT n (X := Int × Int) (B := (Int) ⊕ (Int)) (fun self1 x0 =>
    bif decide (x0.2 < (a0.length : Int)) then
     bnd a0.length x0.2 fun n2 =>
     Option.bind a0[n2]? fun y3 =>
     bif !decide (y3.1 = x0.1) then
      some (Sum.inr (-1 : Int))
     else bnd a0.length x0.2 fun n4 =>
     Option.bind a0[n4]? fun y5 =>
     bif !decide (y5.2 = (IntKind.wrap .i64 (x0.1 + (1 : Int)))) then
      some (Sum.inr (-1 : Int))
     else self1 (IntKind.wrap .i64 ((IntKind.wrap .i64 (x0.1 + (1 : Int))) + (1 : Int)), IntKind.wrap .i64 (x0.2 + (1 : Int)))
    else some (Sum.inl x0.1)) (a1, (0 : Int)) : Option ((Int) ⊕ (Int))) fun y => match y with
  | .inl x6 =>
   some (x6, ())
  | .inr x6 =>
   some (x6, ()) := by kernel_rfl
/- laws.heldIntSS -/
def c_lheldIntSS : TC :=
 (.seq (.rg [o1 4 (.lit [.i .i64] [.int .i64 (0)])])
 (.seq (.join [⟨1, [.i .i64], false⟩] 1048562 (some [⟨4, [.i .i64], false⟩]) (.seq (.rg [o1 5 (.lit [.i .i64] [.int .i64 (0)])])
 (.block 0 (.loop [⟨1, [.i .i64], false⟩, ⟨5, [.i .i64], false⟩] 1048562
  (.seq (.seq (.rg [o1 6 (.copy 5),
    o1 7 (.copy 0),
    o1 8 (.len 7),
    o1 9 (.data (.bin .lss) [.t 6, .t 8])])
  (.cond (.t 9)
   .skip
   (.exit 0)))
  (.seq (.block 1 (.seq (.rg [o1 12 (.copy 0),
    o1 13 (.copy 5),
    o1 14 (.index 12 (.t 13)),
    o1 15 (.load 12 [(0, 1)] 0 (.t 14) 1 false),
    o1 16 (.copy 1),
    o3 17 149 [.t 15, .t 16],
    o1 1 (.copy 17)])
  (.seq (.rg [o1 18 (.copy 1),
    o1 19 (.data (.bin .lss) [.t 18, .c (.int .i64 (0))])])
  (.cond (.t 19)
   (.seq (.rg [o1 4 (.lit [.i .i64] [.int .i64 (-1)])])
   .ret)
   .skip))))
  (.rg [o1 10 (.copy 5),
    o1 11 (.data (.bin .add) [.t 10, .c (.int .i64 (1))]),
    o1 5 (.copy 11)])))))))
 (.seq (.rg [o1 20 (.copy 1),
   o1 4 (.copy 20)])
 .ret)))
def s_lheldIntSS : Sig := ⟨[.rd false [.sl (.own none) [.sl (.own none) [.d]]], .rd false [.d]], (.one false [.d])⟩
noncomputable def E_lheldIntSS : TEnv := envOf [(149, p_lheldIntS)]
noncomputable def f_lheldIntSS (n : Nat) : List (List (Int)) × Int → Option ((Int) × Unit) := runFn n E_lheldIntSS c_lheldIntSS [[.sl [.sl [.i .i64]]], [.i .i64]] [.i .i64] [] [4] .no
noncomputable def g_lheldIntSS := f_lheldIntSS BIG
noncomputable def p_lheldIntSS : TSp := ⟨s_lheldIntSS, [[.sl [.sl [.i .i64]]], [.i .i64]], [.i .i64], [], Ou.j .no, g_lheldIntSS⟩
theorem k_lheldIntSS : chkW PG E_lheldIntSS 188 s_lheldIntSS (c_lheldIntSS.ht 21) .no = some (c_lheldIntSS.wc E_lheldIntSS, [4]) := by kernel_rfl
theorem ok_lheldIntSS : p_lheldIntSS.Ok PG 188 := mkOk (env_cons ok_lheldIntS (env_nil PG)) k_lheldIntSS (by kernel_rfl)
theorem e_lheldIntSS (n : Nat) (a0 : List ((List (Int)))) (a1 : Int) : f_lheldIntSS n (a0, a1) =
  Option.bind (loopT n (X := Int × Int) (B := (Int) ⊕ (Int)) (fun self1 x0 =>
    bif decide (x0.2 < (a0.length : Int)) then
     bnd a0.length x0.2 fun n2 =>
     Option.bind a0[n2]? fun y3 =>
     Option.bind (g_lheldIntS (y3, x0.1)) fun r4 =>
     bif decide (r4.1 < (0 : Int)) then
      some (Sum.inr (-1 : Int))
     else self1 (r4.1, IntKind.wrap .i64 (x0.2 + (1 : Int)))
    else some (Sum.inl x0.1)) (a1, (0 : Int)) : Option ((Int) ⊕ (Int))) fun y => match y with
  | .inl x5 =>
   some (x5, ())
  | .inr x5 =>
   some (x5, ()) := by kernel_rfl
/- laws.heldOrder -/
def c_lheldOrder : TC :=
 (.seq (.rg [o1 2 (.a (.t 0)),
   o1 4 (.lit [.i .i64] [.int .i64 (0)])])
 (.seq (.rg [o1 5 (.idx .nil),
   o1 6 (.load 2 [] 2 (.t 5) 1 false),
   o1 7 (.copy 1),
   o3 8 148 [.t 6, .t 7],
   o1 1 (.copy 8)])
 (.seq (.seq (.rg [o1 9 (.copy 1),
   o1 10 (.data (.bin .lss) [.t 9, .c (.int .i64 (0))])])
 (.cond (.t 10)
  (.seq (.rg [o1 4 (.lit [.i .i64] [.int .i64 (-1)])])
  .ret)
  .skip))
 (.seq (.rg [o1 11 (.copy 1),
   o1 4 (.copy 11)])
 .ret))))
def s_lheldOrder : Sig := ⟨[.rd true [.d, .d, .sl (.own none) [.d, .d], .d], .rd false [.d]], (.one false [.d])⟩
noncomputable def E_lheldOrder : TEnv := envOf [(148, p_lheldEdgeS)]
noncomputable def f_lheldOrder (n : Nat) : (Int × Int × List (Int × Int) × Int) × Int → Option ((Int) × Unit) := runFn n E_lheldOrder c_lheldOrder [[.i .i64, .i .i64, .sl [.i .i64, .i .i64], .i .i64], [.i .i64]] [.i .i64] [] [4] .no
noncomputable def g_lheldOrder := f_lheldOrder BIG
noncomputable def p_lheldOrder : TSp := ⟨s_lheldOrder, [[.i .i64, .i .i64, .sl [.i .i64, .i .i64], .i .i64], [.i .i64]], [.i .i64], [], Ou.j .no, g_lheldOrder⟩
theorem k_lheldOrder : chkW PG E_lheldOrder 291 s_lheldOrder (c_lheldOrder.ht 12) .no = some (c_lheldOrder.wc E_lheldOrder, [4]) := by kernel_rfl
theorem ok_lheldOrder : p_lheldOrder.Ok PG 291 := mkOk (env_cons ok_lheldEdgeS (env_nil PG)) k_lheldOrder (by kernel_rfl)
theorem e_lheldOrder (n : Nat) (a0 : Int × Int × List (Int × Int) × Int) (a1 : Int) : f_lheldOrder n (a0, a1) =
  Option.bind (g_lheldEdgeS (a0.2.2.1, a1)) fun r0 =>
  bif decide (r0.1 < (0 : Int)) then
   some ((-1 : Int), ())
  else some (r0.1, ()) := by kernel_rfl
/- laws.heldTask -/
def c_lheldTask : TC :=
 (.seq (.rg [o1 2 (.a (.t 0)),
   o1 4 (.lit [.i .i64] [.int .i64 (0)])])
 (.seq (.rg [o1 5 (.idx .nil),
   o1 6 (.load 2 [] 5 (.t 5) 4 false),
   o1 7 (.copy 1),
   o3 8 291 [.t 6, .t 7],
   o1 1 (.copy 8)])
 (.seq (.seq (.rg [o1 9 (.copy 1),
   o1 10 (.data (.bin .lss) [.t 9, .c (.int .i64 (0))])])
 (.cond (.t 10)
  (.seq (.rg [o1 4 (.lit [.i .i64] [.int .i64 (-1)])])
  .ret)
  .skip))
 (.seq (.rg [o1 11 (.copy 1),
   o1 4 (.copy 11)])
 .ret))))
def s_lheldTask : Sig := ⟨[.rd true [.d, .d, .d, .d, .d, .d, .d, .sl (.own none) [.d, .d], .d], .rd false [.d]], (.one false [.d])⟩
noncomputable def E_lheldTask : TEnv := envOf [(291, p_lheldOrder)]
noncomputable def f_lheldTask (n : Nat) : (Int × Int × Int × Int × Int × Int × Int × List (Int × Int) × Int) × Int → Option ((Int) × Unit) := runFn n E_lheldTask c_lheldTask [[.i .i64, .i .i64, .i .i64, .i .i64, .i .i64, .i .i64, .i .i64, .sl [.i .i64, .i .i64], .i .i64], [.i .i64]] [.i .i64] [] [4] .no
noncomputable def g_lheldTask := f_lheldTask BIG
noncomputable def p_lheldTask : TSp := ⟨s_lheldTask, [[.i .i64, .i .i64, .i .i64, .i .i64, .i .i64, .i .i64, .i .i64, .sl [.i .i64, .i .i64], .i .i64], [.i .i64]], [.i .i64], [], Ou.j .no, g_lheldTask⟩
theorem k_lheldTask : chkW PG E_lheldTask 189 s_lheldTask (c_lheldTask.ht 12) .no = some (c_lheldTask.wc E_lheldTask, [4]) := by kernel_rfl
theorem ok_lheldTask : p_lheldTask.Ok PG 189 := mkOk (env_cons ok_lheldOrder (env_nil PG)) k_lheldTask (by kernel_rfl)
theorem e_lheldTask (n : Nat) (a0 : Int × Int × Int × Int × Int × Int × Int × List (Int × Int) × Int) (a1 : Int) : f_lheldTask n (a0, a1) =
  Option.bind (g_lheldOrder (a0.2.2.2.2.2, a1)) fun r0 =>
  bif decide (r0.1 < (0 : Int)) then
   some ((-1 : Int), ())
  else some (r0.1, ()) := by kernel_rfl
/- laws.heldSaidS -/
def c_lheldSaidS : TC :=
 (.seq (.rg [o1 4 (.lit [.i .i64] [.int .i64 (0)])])
 (.seq (.join [⟨1, [.i .i64], false⟩] 1180591620717411303410 (some [⟨4, [.i .i64], false⟩]) (.seq (.rg [o1 5 (.lit [.i .i64] [.int .i64 (0)])])
 (.block 0 (.loop [⟨1, [.i .i64], false⟩, ⟨5, [.i .i64], false⟩] 1180591620717411303410
  (.seq (.seq (.rg [o1 6 (.copy 5),
    o1 7 (.copy 0),
    o1 8 (.len 7),
    o1 9 (.data (.bin .lss) [.t 6, .t 8])])
  (.cond (.t 9)
   .skip
   (.exit 0)))
  (.seq (.block 1 (.seq (.seq (.rg [o1 12 (.copy 0),
    o1 13 (.copy 5),
    o1 14 (.index 12 (.t 13)),
    o1 15 (.idx (.t 14)),
    o1 16 (.load 12 [(0, 6)] 0 (.t 15) 1 false),
    o1 17 (.copy 1),
    o1 18 (.data (.bin .neq) [.t 16, .t 17])])
  (.cond (.t 18)
   (.seq (.rg [o1 4 (.lit [.i .i64] [.int .i64 (-1)])])
   .ret)
   .skip))
  (.seq (.rg [o1 19 (.copy 1),
    o1 20 (.data (.bin .add) [.t 19, .c (.int .i64 (1))]),
    o1 1 (.copy 20)])
  (.seq (.seq (.rg [o1 21 (.copy 0),
    o1 22 (.copy 5),
    o1 23 (.index 21 (.t 22)),
    o1 24 (.idx (.t 23)),
    o1 25 (.idx (.t 24)),
    o1 26 (.load 21 [(0, 6)] 1 (.t 25) 1 false),
    o1 27 (.copy 1),
    o1 28 (.data (.bin .neq) [.t 26, .t 27])])
  (.cond (.t 28)
   (.seq (.rg [o1 4 (.lit [.i .i64] [.int .i64 (-1)])])
   .ret)
   .skip))
  (.seq (.rg [o1 29 (.copy 1),
    o1 30 (.data (.bin .add) [.t 29, .c (.int .i64 (1))]),
    o1 1 (.copy 30)])
  (.seq (.seq (.rg [o1 31 (.copy 0),
    o1 32 (.copy 5),
    o1 33 (.index 31 (.t 32)),
    o1 34 (.idx (.t 33)),
    o1 35 (.idx (.t 34)),
    o1 36 (.load 31 [(0, 6)] 2 (.t 35) 1 false),
    o1 37 (.copy 1),
    o1 38 (.data (.bin .neq) [.t 36, .t 37])])
  (.cond (.t 38)
   (.seq (.rg [o1 4 (.lit [.i .i64] [.int .i64 (-1)])])
   .ret)
   .skip))
  (.seq (.rg [o1 39 (.copy 1),
    o1 40 (.data (.bin .add) [.t 39, .c (.int .i64 (1))]),
    o1 1 (.copy 40)])
  (.seq (.seq (.rg [o1 41 (.copy 0),
    o1 42 (.copy 5),
    o1 43 (.index 41 (.t 42)),
    o1 44 (.idx (.t 43)),
    o1 45 (.idx (.t 44)),
    o1 46 (.load 41 [(0, 6)] 3 (.t 45) 1 false),
    o1 47 (.copy 1),
    o1 48 (.data (.bin .neq) [.t 46, .t 47])])
  (.cond (.t 48)
   (.seq (.rg [o1 4 (.lit [.i .i64] [.int .i64 (-1)])])
   .ret)
   .skip))
  (.seq (.rg [o1 49 (.copy 1),
    o1 50 (.data (.bin .add) [.t 49, .c (.int .i64 (1))]),
    o1 1 (.copy 50)])
  (.seq (.seq (.rg [o1 51 (.copy 0),
    o1 52 (.copy 5),
    o1 53 (.index 51 (.t 52)),
    o1 54 (.idx (.t 53)),
    o1 55 (.idx (.t 54)),
    o1 56 (.load 51 [(0, 6)] 4 (.t 55) 1 false),
    o1 57 (.copy 1),
    o1 58 (.data (.bin .neq) [.t 56, .t 57])])
  (.cond (.t 58)
   (.seq (.rg [o1 4 (.lit [.i .i64] [.int .i64 (-1)])])
   .ret)
   .skip))
  (.seq (.rg [o1 59 (.copy 1),
    o1 60 (.data (.bin .add) [.t 59, .c (.int .i64 (1))]),
    o1 1 (.copy 60)])
  (.seq (.seq (.rg [o1 61 (.copy 0),
    o1 62 (.copy 5),
    o1 63 (.index 61 (.t 62)),
    o1 64 (.idx (.t 63)),
    o1 65 (.load 61 [(0, 6)] 5 (.t 64) 1 false),
    o1 66 (.copy 1),
    o1 67 (.data (.bin .neq) [.t 65, .t 66])])
  (.cond (.t 67)
   (.seq (.rg [o1 4 (.lit [.i .i64] [.int .i64 (-1)])])
   .ret)
   .skip))
  (.rg [o1 68 (.copy 1),
    o1 69 (.data (.bin .add) [.t 68, .c (.int .i64 (1))]),
    o1 1 (.copy 69)])))))))))))))
  (.rg [o1 10 (.copy 5),
    o1 11 (.data (.bin .add) [.t 10, .c (.int .i64 (1))]),
    o1 5 (.copy 11)])))))))
 (.seq (.rg [o1 70 (.copy 1),
   o1 4 (.copy 70)])
 .ret)))
def s_lheldSaidS : Sig := ⟨[.rd false [.sl (.own none) [.d, .d, .d, .d, .d, .d]], .rd false [.d]], (.one false [.d])⟩
noncomputable def E_lheldSaidS : TEnv := envOf []
noncomputable def f_lheldSaidS (n : Nat) : (List (Int × Int × Int × Int × Int × Int)) × Int → Option ((Int) × Unit) := runFn n E_lheldSaidS c_lheldSaidS [[.sl [.i .i64, .i .i64, .i .i64, .i .i64, .i .i64, .i .i64]], [.i .i64]] [.i .i64] [] [4] .no
noncomputable def g_lheldSaidS := f_lheldSaidS BIG
noncomputable def p_lheldSaidS : TSp := ⟨s_lheldSaidS, [[.sl [.i .i64, .i .i64, .i .i64, .i .i64, .i .i64, .i .i64]], [.i .i64]], [.i .i64], [], Ou.j .no, g_lheldSaidS⟩
theorem k_lheldSaidS : chkW PG E_lheldSaidS 190 s_lheldSaidS (c_lheldSaidS.ht 71) .no = some (c_lheldSaidS.wc E_lheldSaidS, [4]) := by kernel_rfl
theorem ok_lheldSaidS : p_lheldSaidS.Ok PG 190 := mkOk (env_nil PG) k_lheldSaidS (by kernel_rfl)
theorem e_lheldSaidS (n : Nat) (a0 : List (Int × Int × Int × Int × Int × Int)) (a1 : Int) : f_lheldSaidS n (a0, a1) =
  Option.bind (loopT n (X := Int × Int) (B := (Int) ⊕ (Int)) (fun self1 x0 =>
    bif decide (x0.2 < (a0.length : Int)) then
     bnd a0.length x0.2 fun n2 =>
     Option.bind a0[n2]? fun y3 =>
     bif !decide (y3.1 = x0.1) then
      some (Sum.inr (-1 : Int))
     else bnd a0.length x0.2 fun n4 =>
     Option.bind a0[n4]? fun y5 =>
     bif !decide (y5.2.1 = (IntKind.wrap .i64 (x0.1 + (1 : Int)))) then
      some (Sum.inr (-1 : Int))
     else bnd a0.length x0.2 fun n6 =>
     Option.bind a0[n6]? fun y7 =>
     bif !decide (y7.2.2.1 = (IntKind.wrap .i64 ((IntKind.wrap .i64 (x0.1 + (1 : Int))) + (1 : Int)))) then
      some (Sum.inr (-1 : Int))
     else bnd a0.length x0.2 fun n8 =>
     Option.bind a0[n8]? fun y9 =>
     bif !decide (y9.2.2.2.1 = (IntKind.wrap .i64 ((IntKind.wrap .i64 ((IntKind.wrap .i64 (x0.1 + (1 : Int))) + (1 : Int))) + (1 : Int)))) then
      some (Sum.inr (-1 : Int))
     else bnd a0.length x0.2 fun n10 =>
     Option.bind a0[n10]? fun y11 =>
     bif !decide (y11.2.2.2.2.1 = (IntKind.wrap .i64 ((IntKind.wrap .i64 ((IntKind.wrap .i64 ((IntKind.wrap .i64 (x0.1 + (1 : Int))) + (1 : Int))) + (1 : Int))) + (1 : Int)))) then
      some (Sum.inr (-1 : Int))
     else bnd a0.length x0.2 fun n12 =>
     Option.bind a0[n12]? fun y13 =>
     bif !decide (y13.2.2.2.2.2 = (IntKind.wrap .i64 ((IntKind.wrap .i64 ((IntKind.wrap .i64 ((IntKind.wrap .i64 ((IntKind.wrap .i64 (x0.1 + (1 : Int))) + (1 : Int))) + (1 : Int))) + (1 : Int))) + (1 : Int)))) then
      some (Sum.inr (-1 : Int))
     else self1 (IntKind.wrap .i64 ((IntKind.wrap .i64 ((IntKind.wrap .i64 ((IntKind.wrap .i64 ((IntKind.wrap .i64 ((IntKind.wrap .i64 (x0.1 + (1 : Int))) + (1 : Int))) + (1 : Int))) + (1 : Int))) + (1 : Int))) + (1 : Int)), IntKind.wrap .i64 (x0.2 + (1 : Int)))
    else some (Sum.inl x0.1)) (a1, (0 : Int)) : Option ((Int) ⊕ (Int))) fun y => match y with
  | .inl x14 =>
   some (x14, ())
  | .inr x14 =>
   some (x14, ()) := by kernel_rfl
/- laws.heldHead -/
def c_lheldHead : TC :=
 (.seq (.rg [o1 2 (.a (.t 0)),
   o1 4 (.lit [.i .i64] [.int .i64 (0)])])
 (.seq (.rg [o1 5 (.idx .nil),
   o1 6 (.load 2 [] 1 (.t 5) 1 false),
   o1 7 (.copy 1),
   o3 8 149 [.t 6, .t 7],
   o1 1 (.copy 8)])
 (.seq (.seq (.rg [o1 9 (.copy 1),
   o1 10 (.data (.bin .lss) [.t 9, .c (.int .i64 (0))])])
 (.cond (.t 10)
  (.seq (.rg [o1 4 (.lit [.i .i64] [.int .i64 (-1)])])
  .ret)
  .skip))
 (.seq (.rg [o1 11 (.idx .nil),
   o1 12 (.load 2 [] 2 (.t 11) 1 false),
   o1 13 (.copy 1),
   o3 14 148 [.t 12, .t 13],
   o1 1 (.copy 14)])
 (.seq (.seq (.rg [o1 15 (.copy 1),
   o1 16 (.data (.bin .lss) [.t 15, .c (.int .i64 (0))])])
 (.cond (.t 16)
  (.seq (.rg [o1 4 (.lit [.i .i64] [.int .i64 (-1)])])
  .ret)
  .skip))
 (.seq (.rg [o1 17 (.idx .nil),
   o1 18 (.load 2 [] 3 (.t 17) 1 false),
   o1 19 (.copy 1),
   o3 20 188 [.t 18, .t 19],
   o1 1 (.copy 20)])
 (.seq (.seq (.rg [o1 21 (.copy 1),
   o1 22 (.data (.bin .lss) [.t 21, .c (.int .i64 (0))])])
 (.cond (.t 22)
  (.seq (.rg [o1 4 (.lit [.i .i64] [.int .i64 (-1)])])
  .ret)
  .skip))
 (.seq (.rg [o1 23 (.idx .nil),
   o1 24 (.load 2 [] 4 (.t 23) 1 false),
   o1 25 (.copy 1),
   o3 26 149 [.t 24, .t 25],
   o1 1 (.copy 26)])
 (.seq (.seq (.rg [o1 27 (.copy 1),
   o1 28 (.data (.bin .lss) [.t 27, .c (.int .i64 (0))])])
 (.cond (.t 28)
  (.seq (.rg [o1 4 (.lit [.i .i64] [.int .i64 (-1)])])
  .ret)
  .skip))
 (.seq (.rg [o1 29 (.idx .nil),
   o1 30 (.load 2 [] 5 (.t 29) 9 false),
   o1 31 (.copy 1),
   o3 32 189 [.t 30, .t 31],
   o1 1 (.copy 32)])
 (.seq (.seq (.rg [o1 33 (.copy 1),
   o1 34 (.data (.bin .lss) [.t 33, .c (.int .i64 (0))])])
 (.cond (.t 34)
  (.seq (.rg [o1 4 (.lit [.i .i64] [.int .i64 (-1)])])
  .ret)
  .skip))
 (.seq (.rg [o1 35 (.idx .nil),
   o1 36 (.load 2 [] 14 (.t 35) 1 false),
   o1 37 (.copy 1),
   o3 38 190 [.t 36, .t 37],
   o1 1 (.copy 38)])
 (.seq (.seq (.rg [o1 39 (.copy 1),
   o1 40 (.data (.bin .lss) [.t 39, .c (.int .i64 (0))])])
 (.cond (.t 40)
  (.seq (.rg [o1 4 (.lit [.i .i64] [.int .i64 (-1)])])
  .ret)
  .skip))
 (.seq (.rg [o1 41 (.copy 1),
   o1 4 (.copy 41)])
 .ret))))))))))))))
def s_lheldHead : Sig := ⟨[.rd true [.d, .sl (.own none) [.d], .sl (.own none) [.d, .d], .sl (.own none) [.sl (.own none) [.d]], .sl (.own none) [.d], .d, .d, .d, .d, .d, .d, .d, .sl (.own none) [.d, .d], .d, .sl (.own none) [.d, .d, .d, .d, .d, .d]], .rd false [.d]], (.one false [.d])⟩
noncomputable def E_lheldHead : TEnv := envOf [(149, p_lheldIntS), (148, p_lheldEdgeS), (188, p_lheldIntSS), (189, p_lheldTask), (190, p_lheldSaidS)]
noncomputable def f_lheldHead (n : Nat) : (Int × List (Int) × List (Int × Int) × List (List (Int)) × List (Int) × Int × Int × Int × Int × Int × Int × Int × List (Int × Int) × Int × List (Int × Int × Int × Int × Int × Int)) × Int → Option ((Int) × Unit) := runFn n E_lheldHead c_lheldHead [[.i .i64, .sl [.i .i64], .sl [.i .i64, .i .i64], .sl [.sl [.i .i64]], .sl [.i .i64], .i .i64, .i .i64, .i .i64, .i .i64, .i .i64, .i .i64, .i .i64, .sl [.i .i64, .i .i64], .i .i64, .sl [.i .i64, .i .i64, .i .i64, .i .i64, .i .i64, .i .i64]], [.i .i64]] [.i .i64] [] [4] .no
noncomputable def g_lheldHead := f_lheldHead BIG
noncomputable def p_lheldHead : TSp := ⟨s_lheldHead, [[.i .i64, .sl [.i .i64], .sl [.i .i64, .i .i64], .sl [.sl [.i .i64]], .sl [.i .i64], .i .i64, .i .i64, .i .i64, .i .i64, .i .i64, .i .i64, .i .i64, .sl [.i .i64, .i .i64], .i .i64, .sl [.i .i64, .i .i64, .i .i64, .i .i64, .i .i64, .i .i64]], [.i .i64]], [.i .i64], [], Ou.j .no, g_lheldHead⟩
theorem k_lheldHead : chkW PG E_lheldHead 78 s_lheldHead (c_lheldHead.ht 42) .no = some (c_lheldHead.wc E_lheldHead, [4]) := by kernel_rfl
theorem ok_lheldHead : p_lheldHead.Ok PG 78 := mkOk (env_cons ok_lheldIntS (env_cons ok_lheldEdgeS (env_cons ok_lheldIntSS (env_cons ok_lheldTask (env_cons ok_lheldSaidS (env_nil PG)))))) k_lheldHead (by kernel_rfl)
theorem e_lheldHead (n : Nat) (a0 : Int × List (Int) × List (Int × Int) × List ((List (Int))) × List (Int) × Int × Int × Int × Int × Int × Int × Int × List (Int × Int) × Int × List (Int × Int × Int × Int × Int × Int)) (a1 : Int) : f_lheldHead n (a0, a1) =
  Option.bind (g_lheldIntS (a0.2.1, a1)) fun r0 =>
  bif decide (r0.1 < (0 : Int)) then
   some ((-1 : Int), ())
  else Option.bind (g_lheldEdgeS (a0.2.2.1, r0.1)) fun r1 =>
  bif decide (r1.1 < (0 : Int)) then
   some ((-1 : Int), ())
  else Option.bind (g_lheldIntSS (a0.2.2.2.1, r1.1)) fun r2 =>
  bif decide (r2.1 < (0 : Int)) then
   some ((-1 : Int), ())
  else Option.bind (g_lheldIntS (a0.2.2.2.2.1, r2.1)) fun r3 =>
  bif decide (r3.1 < (0 : Int)) then
   some ((-1 : Int), ())
  else Option.bind (g_lheldTask ((a0.2.2.2.2.2.1, a0.2.2.2.2.2.2.1, a0.2.2.2.2.2.2.2.1, a0.2.2.2.2.2.2.2.2.1, a0.2.2.2.2.2.2.2.2.2.1, a0.2.2.2.2.2.2.2.2.2.2.1, a0.2.2.2.2.2.2.2.2.2.2.2.1, a0.2.2.2.2.2.2.2.2.2.2.2.2.1, a0.2.2.2.2.2.2.2.2.2.2.2.2.2.1), r3.1)) fun r4 =>
  bif decide (r4.1 < (0 : Int)) then
   some ((-1 : Int), ())
  else Option.bind (g_lheldSaidS (a0.2.2.2.2.2.2.2.2.2.2.2.2.2.2, r4.1)) fun r5 =>
  bif decide (r5.1 < (0 : Int)) then
   some ((-1 : Int), ())
  else some (r5.1, ()) := by kernel_rfl
/- laws.heldLedgeS -/
def c_lheldLedgeS : TC :=
 (.seq (.rg [o1 4 (.lit [.i .i64] [.int .i64 (0)])])
 (.seq (.join [⟨1, [.i .i64], false⟩] 1125899906842610 (some [⟨4, [.i .i64], false⟩]) (.seq (.rg [o1 5 (.lit [.i .i64] [.int .i64 (0)])])
 (.block 0 (.loop [⟨1, [.i .i64], false⟩, ⟨5, [.i .i64], false⟩] 1125899906842610
  (.seq (.seq (.rg [o1 6 (.copy 5),
    o1 7 (.copy 0),
    o1 8 (.len 7),
    o1 9 (.data (.bin .lss) [.t 6, .t 8])])
  (.cond (.t 9)
   .skip
   (.exit 0)))
  (.seq (.block 1 (.seq (.seq (.rg [o1 12 (.copy 0),
    o1 13 (.copy 5),
    o1 14 (.index 12 (.t 13)),
    o1 15 (.idx (.t 14)),
    o1 16 (.load 12 [(0, 4)] 0 (.t 15) 1 false),
    o1 17 (.copy 1),
    o1 18 (.data (.bin .neq) [.t 16, .t 17])])
  (.cond (.t 18)
   (.seq (.rg [o1 4 (.lit [.i .i64] [.int .i64 (-1)])])
   .ret)
   .skip))
  (.seq (.rg [o1 19 (.copy 1),
    o1 20 (.data (.bin .add) [.t 19, .c (.int .i64 (1))]),
    o1 1 (.copy 20)])
  (.seq (.seq (.rg [o1 21 (.copy 0),
    o1 22 (.copy 5),
    o1 23 (.index 21 (.t 22)),
    o1 24 (.idx (.t 23)),
    o1 25 (.load 21 [(0, 4)] 1 (.t 24) 1 false),
    o1 26 (.copy 1),
    o1 27 (.data (.bin .neq) [.t 25, .t 26])])
  (.cond (.t 27)
   (.seq (.rg [o1 4 (.lit [.i .i64] [.int .i64 (-1)])])
   .ret)
   .skip))
  (.seq (.rg [o1 28 (.copy 1),
    o1 29 (.data (.bin .add) [.t 28, .c (.int .i64 (1))]),
    o1 1 (.copy 29)])
  (.seq (.seq (.rg [o1 30 (.copy 0),
    o1 31 (.copy 5),
    o1 32 (.index 30 (.t 31)),
    o1 33 (.idx (.t 32)),
    o1 34 (.load 30 [(0, 4)] 2 (.t 33) 1 false),
    o1 35 (.copy 1),
    o1 36 (.data (.bin .neq) [.t 34, .t 35])])
  (.cond (.t 36)
   (.seq (.rg [o1 4 (.lit [.i .i64] [.int .i64 (-1)])])
   .ret)
   .skip))
  (.seq (.rg [o1 37 (.copy 1),
    o1 38 (.data (.bin .add) [.t 37, .c (.int .i64 (1))]),
    o1 1 (.copy 38)])
  (.seq (.seq (.rg [o1 39 (.copy 0),
    o1 40 (.copy 5),
    o1 41 (.index 39 (.t 40)),
    o1 42 (.idx (.t 41)),
    o1 43 (.load 39 [(0, 4)] 3 (.t 42) 1 false),
    o1 44 (.copy 1),
    o1 45 (.data (.bin .rem) [.t 44, .c (.int .i64 (3))]),
    o1 46 (.data (.bin .eql) [.t 45, .c (.int .i64 (0))]),
    o1 47 (.data (.beq true) [.t 43, .t 46])])
  (.cond (.t 47)
   (.seq (.rg [o1 4 (.lit [.i .i64] [.int .i64 (-1)])])
   .ret)
   .skip))
  (.rg [o1 48 (.copy 1),
    o1 49 (.data (.bin .add) [.t 48, .c (.int .i64 (1))]),
    o1 1 (.copy 49)])))))))))
  (.rg [o1 10 (.copy 5),
    o1 11 (.data (.bin .add) [.t 10, .c (.int .i64 (1))]),
    o1 5 (.copy 11)])))))))
 (.seq (.rg [o1 50 (.copy 1),
   o1 4 (.copy 50)])
 .ret)))
def s_lheldLedgeS : Sig := ⟨[.rd false [.sl (.own none) [.d, .d, .d, .d]], .rd false [.d]], (.one false [.d])⟩
noncomputable def E_lheldLedgeS : TEnv := envOf []
noncomputable def f_lheldLedgeS (n : Nat) : (List (Int × Int × Int × Bool)) × Int → Option ((Int) × Unit) := runFn n E_lheldLedgeS c_lheldLedgeS [[.sl [.i .i64, .i .i64, .i .i64, .b]], [.i .i64]] [.i .i64] [] [4] .no
noncomputable def g_lheldLedgeS := f_lheldLedgeS BIG
noncomputable def p_lheldLedgeS : TSp := ⟨s_lheldLedgeS, [[.sl [.i .i64, .i .i64, .i .i64, .b]], [.i .i64]], [.i .i64], [], Ou.j .no, g_lheldLedgeS⟩
theorem k_lheldLedgeS : chkW PG E_lheldLedgeS 303 s_lheldLedgeS (c_lheldLedgeS.ht 51) .no = some (c_lheldLedgeS.wc E_lheldLedgeS, [4]) := by kernel_rfl
theorem ok_lheldLedgeS : p_lheldLedgeS.Ok PG 303 := mkOk (env_nil PG) k_lheldLedgeS (by kernel_rfl)
theorem e_lheldLedgeS (n : Nat) (a0 : List (Int × Int × Int × Bool)) (a1 : Int) : f_lheldLedgeS n (a0, a1) =
  Option.bind (loopT n (X := Int × Int) (B := (Int) ⊕ (Int)) (fun self1 x0 =>
    bif decide (x0.2 < (a0.length : Int)) then
     bnd a0.length x0.2 fun n2 =>
     Option.bind a0[n2]? fun y3 =>
     bif !decide (y3.1 = x0.1) then
      some (Sum.inr (-1 : Int))
     else bnd a0.length x0.2 fun n4 =>
     Option.bind a0[n4]? fun y5 =>
     bif !decide (y5.2.1 = (IntKind.wrap .i64 (x0.1 + (1 : Int)))) then
      some (Sum.inr (-1 : Int))
     else bnd a0.length x0.2 fun n6 =>
     Option.bind a0[n6]? fun y7 =>
     bif !decide (y7.2.2.1 = (IntKind.wrap .i64 ((IntKind.wrap .i64 (x0.1 + (1 : Int))) + (1 : Int)))) then
      some (Sum.inr (-1 : Int))
     else bnd a0.length x0.2 fun n8 =>
     Option.bind a0[n8]? fun y9 =>
     bif decide ((3 : Int) = 0) then
      none
     else bif !(y9.2.2.2 == (decide ((Int.tmod (IntKind.wrap .i64 ((IntKind.wrap .i64 ((IntKind.wrap .i64 (x0.1 + (1 : Int))) + (1 : Int))) + (1 : Int))) (3 : Int)) = (0 : Int)))) then
      some (Sum.inr (-1 : Int))
     else self1 (IntKind.wrap .i64 ((IntKind.wrap .i64 ((IntKind.wrap .i64 ((IntKind.wrap .i64 (x0.1 + (1 : Int))) + (1 : Int))) + (1 : Int))) + (1 : Int)), IntKind.wrap .i64 (x0.2 + (1 : Int)))
    else some (Sum.inl x0.1)) (a1, (0 : Int)) : Option ((Int) ⊕ (Int))) fun y => match y with
  | .inl x10 =>
   some (x10, ())
  | .inr x10 =>
   some (x10, ()) := by kernel_rfl
/- laws.heldShardS -/
def c_lheldShardS : TC :=
 (.seq (.rg [o1 4 (.lit [.i .i64] [.int .i64 (0)])])
 (.seq (.join [⟨1, [.i .i64], false⟩] 9671406556917033397649394 (some [⟨4, [.i .i64], false⟩]) (.seq (.rg [o1 5 (.lit [.i .i64] [.int .i64 (0)])])
 (.block 0 (.loop [⟨1, [.i .i64], false⟩, ⟨5, [.i .i64], false⟩] 9671406556917033397649394
  (.seq (.seq (.rg [o1 6 (.copy 5),
    o1 7 (.copy 0),
    o1 8 (.len 7),
    o1 9 (.data (.bin .lss) [.t 6, .t 8])])
  (.cond (.t 9)
   .skip
   (.exit 0)))
  (.seq (.block 1 (.seq (.seq (.rg [o1 12 (.copy 0),
    o1 13 (.copy 5),
    o1 14 (.index 12 (.t 13)),
    o1 15 (.idx (.t 14)),
    o1 16 (.load 12 [(0, 7)] 0 (.t 15) 1 false),
    o1 17 (.copy 1),
    o1 18 (.data (.bin .neq) [.t 16, .t 17])])
  (.cond (.t 18)
   (.seq (.rg [o1 4 (.lit [.i .i64] [.int .i64 (-1)])])
   .ret)
   .skip))
  (.seq (.rg [o1 19 (.copy 1),
    o1 20 (.data (.bin .add) [.t 19, .c (.int .i64 (1))]),
    o1 1 (.copy 20)])
  (.seq (.seq (.rg [o1 21 (.copy 0),
    o1 22 (.copy 5),
    o1 23 (.index 21 (.t 22)),
    o1 24 (.idx (.t 23)),
    o1 25 (.idx (.t 24)),
    o1 26 (.load 21 [(0, 7)] 1 (.t 25) 1 false),
    o1 27 (.copy 1),
    o1 28 (.data (.bin .neq) [.t 26, .t 27])])
  (.cond (.t 28)
   (.seq (.rg [o1 4 (.lit [.i .i64] [.int .i64 (-1)])])
   .ret)
   .skip))
  (.seq (.rg [o1 29 (.copy 1),
    o1 30 (.data (.bin .add) [.t 29, .c (.int .i64 (1))]),
    o1 1 (.copy 30)])
  (.seq (.rg [o1 31 (.copy 0),
    o1 32 (.copy 5),
    o1 33 (.index 31 (.t 32)),
    o1 34 (.idx (.t 33)),
    o1 35 (.idx (.t 34)),
    o1 36 (.load 31 [(0, 7)] 2 (.t 35) 1 false),
    o1 37 (.copy 1),
    o3 38 303 [.t 36, .t 37],
    o1 1 (.copy 38)])
  (.seq (.seq (.rg [o1 39 (.copy 1),
    o1 40 (.data (.bin .lss) [.t 39, .c (.int .i64 (0))])])
  (.cond (.t 40)
   (.seq (.rg [o1 4 (.lit [.i .i64] [.int .i64 (-1)])])
   .ret)
   .skip))
  (.seq (.seq (.rg [o1 41 (.copy 0),
    o1 42 (.copy 5),
    o1 43 (.index 41 (.t 42)),
    o1 44 (.idx (.t 43)),
    o1 45 (.idx (.t 44)),
    o1 46 (.load 41 [(0, 7)] 3 (.t 45) 1 false),
    o1 47 (.copy 1),
    o1 48 (.data (.bin .neq) [.t 46, .t 47])])
  (.cond (.t 48)
   (.seq (.rg [o1 4 (.lit [.i .i64] [.int .i64 (-1)])])
   .ret)
   .skip))
  (.seq (.rg [o1 49 (.copy 1),
    o1 50 (.data (.bin .add) [.t 49, .c (.int .i64 (1))]),
    o1 1 (.copy 50)])
  (.seq (.seq (.rg [o1 51 (.copy 0),
    o1 52 (.copy 5),
    o1 53 (.index 51 (.t 52)),
    o1 54 (.idx (.t 53)),
    o1 55 (.idx (.t 54)),
    o1 56 (.load 51 [(0, 7)] 4 (.t 55) 1 false),
    o1 57 (.copy 1),
    o1 58 (.data (.bin .rem) [.t 57, .c (.int .i64 (3))]),
    o1 59 (.data (.bin .eql) [.t 58, .c (.int .i64 (0))]),
    o1 60 (.data (.beq true) [.t 56, .t 59])])
  (.cond (.t 60)
   (.seq (.rg [o1 4 (.lit [.i .i64] [.int .i64 (-1)])])
   .ret)
   .skip))
  (.seq (.rg [o1 61 (.copy 1),
    o1 62 (.data (.bin .add) [.t 61, .c (.int .i64 (1))]),
    o1 1 (.copy 62)])
  (.seq (.rg [o1 63 (.copy 0),
    o1 64 (.copy 5),
    o1 65 (.index 63 (.t 64)),
    o1 66 (.idx (.t 65)),
    o1 67 (.idx (.t 66)),
    o1 68 (.load 63 [(0, 7)] 5 (.t 67) 1 false),
    o1 69 (.copy 1),
    o3 70 148 [.t 68, .t 69],
    o1 1 (.copy 70)])
  (.seq (.seq (.rg [o1 71 (.copy 1),
    o1 72 (.data (.bin .lss) [.t 71, .c (.int .i64 (0))])])
  (.cond (.t 72)
   (.seq (.rg [o1 4 (.lit [.i .i64] [.int .i64 (-1)])])
   .ret)
   .skip))
  (.seq (.rg [o1 73 (.copy 0),
    o1 74 (.copy 5),
    o1 75 (.index 73 (.t 74)),
    o1 76 (.idx (.t 75)),
    o1 77 (.idx (.t 76)),
    o1 78 (.load 73 [(0, 7)] 6 (.t 77) 1 false),
    o1 79 (.copy 1),
    o3 80 149 [.t 78, .t 79],
    o1 1 (.copy 80)])
  (.seq (.rg [o1 81 (.copy 1),
    o1 82 (.data (.bin .lss) [.t 81, .c (.int .i64 (0))])])
  (.cond (.t 82)
   (.seq (.rg [o1 4 (.lit [.i .i64] [.int .i64 (-1)])])
   .ret)
   .skip))))))))))))))))
  (.rg [o1 10 (.copy 5),
    o1 11 (.data (.bin .add) [.t 10, .c (.int .i64 (1))]),
    o1 5 (.copy 11)])))))))
 (.seq (.rg [o1 83 (.copy 1),
   o1 4 (.copy 83)])
 .ret)))
def s_lheldShardS : Sig := ⟨[.rd false [.sl (.own none) [.d, .d, .sl (.own none) [.d, .d, .d, .d], .d, .d, .sl (.own none) [.d, .d], .sl (.own none) [.d]]], .rd false [.d]], (.one false [.d])⟩
noncomputable def E_lheldShardS : TEnv := envOf [(303, p_lheldLedgeS), (148, p_lheldEdgeS), (149, p_lheldIntS)]
noncomputable def f_lheldShardS (n : Nat) : (List (Int × Int × List (Int × Int × Int × Bool) × Int × Bool × List (Int × Int) × List (Int))) × Int → Option ((Int) × Unit) := runFn n E_lheldShardS c_lheldShardS [[.sl [.i .i64, .i .i64, .sl [.i .i64, .i .i64, .i .i64, .b], .i .i64, .b, .sl [.i .i64, .i .i64], .sl [.i .i64]]], [.i .i64]] [.i .i64] [] [4] .no
noncomputable def g_lheldShardS := f_lheldShardS BIG
noncomputable def p_lheldShardS : TSp := ⟨s_lheldShardS, [[.sl [.i .i64, .i .i64, .sl [.i .i64, .i .i64, .i .i64, .b], .i .i64, .b, .sl [.i .i64, .i .i64], .sl [.i .i64]]], [.i .i64]], [.i .i64], [], Ou.j .no, g_lheldShardS⟩
theorem k_lheldShardS : chkW PG E_lheldShardS 224 s_lheldShardS (c_lheldShardS.ht 84) .no = some (c_lheldShardS.wc E_lheldShardS, [4]) := by kernel_rfl
theorem ok_lheldShardS : p_lheldShardS.Ok PG 224 := mkOk (env_cons ok_lheldLedgeS (env_cons ok_lheldEdgeS (env_cons ok_lheldIntS (env_nil PG)))) k_lheldShardS (by kernel_rfl)
theorem e_lheldShardS (n : Nat) (a0 : List (Int × Int × (List (Int × Int × Int × Bool)) × Int × Bool × (List (Int × Int)) × (List (Int)))) (a1 : Int) : f_lheldShardS n (a0, a1) =
  Option.bind (loopT n (X := Int × Int) (B := (Int) ⊕ (Int)) (fun self1 x0 =>
    bif decide (x0.2 < (a0.length : Int)) then
     bnd a0.length x0.2 fun n2 =>
     Option.bind a0[n2]? fun y3 =>
     bif !decide (y3.1 = x0.1) then
      some (Sum.inr (-1 : Int))
     else bnd a0.length x0.2 fun n4 =>
     Option.bind a0[n4]? fun y5 =>
     bif !decide (y5.2.1 = (IntKind.wrap .i64 (x0.1 + (1 : Int)))) then
      some (Sum.inr (-1 : Int))
     else bnd a0.length x0.2 fun n6 =>
     Option.bind a0[n6]? fun y7 =>
     Option.bind (g_lheldLedgeS (y7.2.2.1, IntKind.wrap .i64 ((IntKind.wrap .i64 (x0.1 + (1 : Int))) + (1 : Int)))) fun r8 =>
     bif decide (r8.1 < (0 : Int)) then
      some (Sum.inr (-1 : Int))
     else bnd a0.length x0.2 fun n9 =>
     Option.bind a0[n9]? fun y10 =>
     bif !decide (y10.2.2.2.1 = r8.1) then
      some (Sum.inr (-1 : Int))
     else bnd a0.length x0.2 fun n11 =>
     Option.bind a0[n11]? fun y12 =>
     bif decide ((3 : Int) = 0) then
      none
     else bif !(y12.2.2.2.2.1 == (decide ((Int.tmod (IntKind.wrap .i64 (r8.1 + (1 : Int))) (3 : Int)) = (0 : Int)))) then
      some (Sum.inr (-1 : Int))
     else bnd a0.length x0.2 fun n13 =>
     Option.bind a0[n13]? fun y14 =>
     Option.bind (g_lheldEdgeS (y14.2.2.2.2.2.1, IntKind.wrap .i64 ((IntKind.wrap .i64 (r8.1 + (1 : Int))) + (1 : Int)))) fun r15 =>
     bif decide (r15.1 < (0 : Int)) then
      some (Sum.inr (-1 : Int))
     else bnd a0.length x0.2 fun n16 =>
     Option.bind a0[n16]? fun y17 =>
     Option.bind (g_lheldIntS (y17.2.2.2.2.2.2, r15.1)) fun r18 =>
     bif decide (r18.1 < (0 : Int)) then
      some (Sum.inr (-1 : Int))
     else self1 (r18.1, IntKind.wrap .i64 (x0.2 + (1 : Int)))
    else some (Sum.inl x0.1)) (a1, (0 : Int)) : Option ((Int) ⊕ (Int))) fun y => match y with
  | .inl x19 =>
   some (x19, ())
  | .inr x19 =>
   some (x19, ()) := by kernel_rfl
/- laws.heldFileS -/
def c_lheldFileS : TC :=
 (.seq (.rg [o1 4 (.lit [.i .i64] [.int .i64 (0)])])
 (.seq (.join [⟨1, [.i .i64], false⟩] 2199023255538 (some [⟨4, [.i .i64], false⟩]) (.seq (.rg [o1 5 (.lit [.i .i64] [.int .i64 (0)])])
 (.block 0 (.loop [⟨1, [.i .i64], false⟩, ⟨5, [.i .i64], false⟩] 2199023255538
  (.seq (.seq (.rg [o1 6 (.copy 5),
    o1 7 (.copy 0),
    o1 8 (.len 7),
    o1 9 (.data (.bin .lss) [.t 6, .t 8])])
  (.cond (.t 9)
   .skip
   (.exit 0)))
  (.seq (.block 1 (.seq (.seq (.rg [o1 12 (.copy 0),
    o1 13 (.copy 5),
    o1 14 (.index 12 (.t 13)),
    o1 15 (.idx (.t 14)),
    o1 16 (.load 12 [(0, 3)] 0 (.t 15) 1 false),
    o1 17 (.copy 1),
    o3 18 161 [.t 17],
    o1 19 (.data (.bin .neq) [.t 16, .t 18])])
  (.cond (.t 19)
   (.seq (.rg [o1 4 (.lit [.i .i64] [.int .i64 (-1)])])
   .ret)
   .skip))
  (.seq (.rg [o1 20 (.copy 1),
    o1 21 (.data (.bin .add) [.t 20, .c (.int .i64 (1))]),
    o1 1 (.copy 21)])
  (.seq (.seq (.rg [o1 22 (.copy 0),
    o1 23 (.copy 5),
    o1 24 (.index 22 (.t 23)),
    o1 25 (.idx (.t 24)),
    o1 26 (.load 22 [(0, 3)] 1 (.t 25) 1 false),
    o1 27 (.copy 1),
    o3 28 161 [.t 27],
    o1 29 (.data (.bin .neq) [.t 26, .t 28])])
  (.cond (.t 29)
   (.seq (.rg [o1 4 (.lit [.i .i64] [.int .i64 (-1)])])
   .ret)
   .skip))
  (.seq (.rg [o1 30 (.copy 1),
    o1 31 (.data (.bin .add) [.t 30, .c (.int .i64 (1))]),
    o1 1 (.copy 31)])
  (.seq (.seq (.rg [o1 32 (.copy 0),
    o1 33 (.copy 5),
    o1 34 (.index 32 (.t 33)),
    o1 35 (.idx (.t 34)),
    o1 36 (.load 32 [(0, 3)] 2 (.t 35) 1 false),
    o1 37 (.copy 1),
    o1 38 (.data (.bin .neq) [.t 36, .t 37])])
  (.cond (.t 38)
   (.seq (.rg [o1 4 (.lit [.i .i64] [.int .i64 (-1)])])
   .ret)
   .skip))
  (.rg [o1 39 (.copy 1),
    o1 40 (.data (.bin .add) [.t 39, .c (.int .i64 (1))]),
    o1 1 (.copy 40)])))))))
  (.rg [o1 10 (.copy 5),
    o1 11 (.data (.bin .add) [.t 10, .c (.int .i64 (1))]),
    o1 5 (.copy 11)])))))))
 (.seq (.rg [o1 41 (.copy 1),
   o1 4 (.copy 41)])
 .ret)))
def s_lheldFileS : Sig := ⟨[.rd false [.sl (.own none) [.d, .d, .d]], .rd false [.d]], (.one false [.d])⟩
noncomputable def E_lheldFileS : TEnv := envOf [(161, p_lmarkText)]
noncomputable def f_lheldFileS (n : Nat) : (List (ByteArray × ByteArray × Int)) × Int → Option ((Int) × Unit) := runFn n E_lheldFileS c_lheldFileS [[.sl [.s, .s, .i .i64]], [.i .i64]] [.i .i64] [] [4] .no
noncomputable def g_lheldFileS := f_lheldFileS BIG
noncomputable def p_lheldFileS : TSp := ⟨s_lheldFileS, [[.sl [.s, .s, .i .i64]], [.i .i64]], [.i .i64], [], Ou.j .no, g_lheldFileS⟩
theorem k_lheldFileS : chkW PG E_lheldFileS 304 s_lheldFileS (c_lheldFileS.ht 42) .no = some (c_lheldFileS.wc E_lheldFileS, [4]) := by kernel_rfl
theorem ok_lheldFileS : p_lheldFileS.Ok PG 304 := mkOk (env_cons ok_lmarkText (env_nil PG)) k_lheldFileS (by kernel_rfl)
theorem e_lheldFileS (n : Nat) (a0 : List (ByteArray × ByteArray × Int)) (a1 : Int) : f_lheldFileS n (a0, a1) =
  Option.bind (loopT n (X := Int × Int) (B := (Int) ⊕ (Int)) (fun self1 x0 =>
    bif decide (x0.2 < (a0.length : Int)) then
     bnd a0.length x0.2 fun n2 =>
     Option.bind a0[n2]? fun y3 =>
     Option.bind (g_lmarkText x0.1) fun r4 =>
     bif !(y3.1.toList == r4.1.toList) then
      some (Sum.inr (-1 : Int))
     else bnd a0.length x0.2 fun n5 =>
     Option.bind a0[n5]? fun y6 =>
     Option.bind (g_lmarkText (IntKind.wrap .i64 (x0.1 + (1 : Int)))) fun r7 =>
     bif !(y6.2.1.toList == r7.1.toList) then
      some (Sum.inr (-1 : Int))
     else bnd a0.length x0.2 fun n8 =>
     Option.bind a0[n8]? fun y9 =>
     bif !decide (y9.2.2 = (IntKind.wrap .i64 ((IntKind.wrap .i64 (x0.1 + (1 : Int))) + (1 : Int)))) then
      some (Sum.inr (-1 : Int))
     else self1 (IntKind.wrap .i64 ((IntKind.wrap .i64 ((IntKind.wrap .i64 (x0.1 + (1 : Int))) + (1 : Int))) + (1 : Int)), IntKind.wrap .i64 (x0.2 + (1 : Int)))
    else some (Sum.inl x0.1)) (a1, (0 : Int)) : Option ((Int) ⊕ (Int))) fun y => match y with
  | .inl x10 =>
   some (x10, ())
  | .inr x10 =>
   some (x10, ()) := by kernel_rfl
/- laws.heldDiskS -/
def c_lheldDiskS : TC :=
 (.seq (.rg [o1 4 (.lit [.i .i64] [.int .i64 (0)])])
 (.seq (.join [⟨1, [.i .i64], false⟩] 2097138 (some [⟨4, [.i .i64], false⟩]) (.seq (.rg [o1 5 (.lit [.i .i64] [.int .i64 (0)])])
 (.block 0 (.loop [⟨1, [.i .i64], false⟩, ⟨5, [.i .i64], false⟩] 2097138
  (.seq (.seq (.rg [o1 6 (.copy 5),
    o1 7 (.copy 0),
    o1 8 (.len 7),
    o1 9 (.data (.bin .lss) [.t 6, .t 8])])
  (.cond (.t 9)
   .skip
   (.exit 0)))
  (.seq (.block 1 (.seq (.rg [o1 12 (.copy 0),
    o1 13 (.copy 5),
    o1 14 (.index 12 (.t 13)),
    o1 15 (.idx (.t 14)),
    o1 16 (.load 12 [(0, 1)] 0 (.t 15) 1 false),
    o1 17 (.copy 1),
    o3 18 304 [.t 16, .t 17],
    o1 1 (.copy 18)])
  (.seq (.rg [o1 19 (.copy 1),
    o1 20 (.data (.bin .lss) [.t 19, .c (.int .i64 (0))])])
  (.cond (.t 20)
   (.seq (.rg [o1 4 (.lit [.i .i64] [.int .i64 (-1)])])
   .ret)
   .skip))))
  (.rg [o1 10 (.copy 5),
    o1 11 (.data (.bin .add) [.t 10, .c (.int .i64 (1))]),
    o1 5 (.copy 11)])))))))
 (.seq (.rg [o1 21 (.copy 1),
   o1 4 (.copy 21)])
 .ret)))
def s_lheldDiskS : Sig := ⟨[.rd false [.sl (.own none) [.sl (.own none) [.d, .d, .d]]], .rd false [.d]], (.one false [.d])⟩
noncomputable def E_lheldDiskS : TEnv := envOf [(304, p_lheldFileS)]
noncomputable def f_lheldDiskS (n : Nat) : (List (List (ByteArray × ByteArray × Int))) × Int → Option ((Int) × Unit) := runFn n E_lheldDiskS c_lheldDiskS [[.sl [.sl [.s, .s, .i .i64]]], [.i .i64]] [.i .i64] [] [4] .no
noncomputable def g_lheldDiskS := f_lheldDiskS BIG
noncomputable def p_lheldDiskS : TSp := ⟨s_lheldDiskS, [[.sl [.sl [.s, .s, .i .i64]]], [.i .i64]], [.i .i64], [], Ou.j .no, g_lheldDiskS⟩
theorem k_lheldDiskS : chkW PG E_lheldDiskS 225 s_lheldDiskS (c_lheldDiskS.ht 22) .no = some (c_lheldDiskS.wc E_lheldDiskS, [4]) := by kernel_rfl
theorem ok_lheldDiskS : p_lheldDiskS.Ok PG 225 := mkOk (env_cons ok_lheldFileS (env_nil PG)) k_lheldDiskS (by kernel_rfl)
theorem e_lheldDiskS (n : Nat) (a0 : List ((List (ByteArray × ByteArray × Int)))) (a1 : Int) : f_lheldDiskS n (a0, a1) =
  Option.bind (loopT n (X := Int × Int) (B := (Int) ⊕ (Int)) (fun self1 x0 =>
    bif decide (x0.2 < (a0.length : Int)) then
     bnd a0.length x0.2 fun n2 =>
     Option.bind a0[n2]? fun y3 =>
     Option.bind (g_lheldFileS (y3, x0.1)) fun r4 =>
     bif decide (r4.1 < (0 : Int)) then
      some (Sum.inr (-1 : Int))
     else self1 (r4.1, IntKind.wrap .i64 (x0.2 + (1 : Int)))
    else some (Sum.inl x0.1)) (a1, (0 : Int)) : Option ((Int) ⊕ (Int))) fun y => match y with
  | .inl x5 =>
   some (x5, ())
  | .inr x5 =>
   some (x5, ()) := by kernel_rfl
/- laws.heldBoolS -/
def c_lheldBoolS : TC :=
 (.seq (.rg [o1 4 (.lit [.i .i64] [.int .i64 (0)])])
 (.seq (.join [⟨1, [.i .i64], false⟩] 4194290 (some [⟨4, [.i .i64], false⟩]) (.seq (.rg [o1 5 (.lit [.i .i64] [.int .i64 (0)])])
 (.block 0 (.loop [⟨1, [.i .i64], false⟩, ⟨5, [.i .i64], false⟩] 4194290
  (.seq (.seq (.rg [o1 6 (.copy 5),
    o1 7 (.copy 0),
    o1 8 (.len 7),
    o1 9 (.data (.bin .lss) [.t 6, .t 8])])
  (.cond (.t 9)
   .skip
   (.exit 0)))
  (.seq (.block 1 (.seq (.seq (.rg [o1 12 (.copy 0),
    o1 13 (.copy 5),
    o1 14 (.index 12 (.t 13)),
    o1 15 (.load 12 [(0, 1)] 0 (.t 14) 1 false),
    o1 16 (.copy 1),
    o1 17 (.data (.bin .rem) [.t 16, .c (.int .i64 (3))]),
    o1 18 (.data (.bin .eql) [.t 17, .c (.int .i64 (0))]),
    o1 19 (.data (.beq true) [.t 15, .t 18])])
  (.cond (.t 19)
   (.seq (.rg [o1 4 (.lit [.i .i64] [.int .i64 (-1)])])
   .ret)
   .skip))
  (.rg [o1 20 (.copy 1),
    o1 21 (.data (.bin .add) [.t 20, .c (.int .i64 (1))]),
    o1 1 (.copy 21)])))
  (.rg [o1 10 (.copy 5),
    o1 11 (.data (.bin .add) [.t 10, .c (.int .i64 (1))]),
    o1 5 (.copy 11)])))))))
 (.seq (.rg [o1 22 (.copy 1),
   o1 4 (.copy 22)])
 .ret)))
def s_lheldBoolS : Sig := ⟨[.rd false [.sl (.own none) [.d]], .rd false [.d]], (.one false [.d])⟩
noncomputable def E_lheldBoolS : TEnv := envOf []
noncomputable def f_lheldBoolS (n : Nat) : List (Bool) × Int → Option ((Int) × Unit) := runFn n E_lheldBoolS c_lheldBoolS [[.sl [.b]], [.i .i64]] [.i .i64] [] [4] .no
noncomputable def g_lheldBoolS := f_lheldBoolS BIG
noncomputable def p_lheldBoolS : TSp := ⟨s_lheldBoolS, [[.sl [.b]], [.i .i64]], [.i .i64], [], Ou.j .no, g_lheldBoolS⟩
theorem k_lheldBoolS : chkW PG E_lheldBoolS 226 s_lheldBoolS (c_lheldBoolS.ht 23) .no = some (c_lheldBoolS.wc E_lheldBoolS, [4]) := by kernel_rfl
theorem ok_lheldBoolS : p_lheldBoolS.Ok PG 226 := mkOk (env_nil PG) k_lheldBoolS (by kernel_rfl)
theorem e_lheldBoolS (n : Nat) (a0 : List (Bool)) (a1 : Int) : f_lheldBoolS n (a0, a1) =
  Option.bind (loopT n (X := Int × Int) (B := (Int) ⊕ (Int)) (fun self1 x0 =>
    bif decide (x0.2 < (a0.length : Int)) then
     bnd a0.length x0.2 fun n2 =>
     Option.bind a0[n2]? fun y3 =>
     bif decide ((3 : Int) = 0) then
      none
     else bif !(y3 == (decide ((Int.tmod x0.1 (3 : Int)) = (0 : Int)))) then
      some (Sum.inr (-1 : Int))
     else self1 (IntKind.wrap .i64 (x0.1 + (1 : Int)), IntKind.wrap .i64 (x0.2 + (1 : Int)))
    else some (Sum.inl x0.1)) (a1, (0 : Int)) : Option ((Int) ⊕ (Int))) fun y => match y with
  | .inl x4 =>
   some (x4, ())
  | .inr x4 =>
   some (x4, ()) := by kernel_rfl
/- laws.heldPacketS -/
def c_lheldPacketS : TC :=
 (.seq (.rg [o1 4 (.lit [.i .i64] [.int .i64 (0)])])
 (.seq (.join [⟨1, [.i .i64], false⟩] 1099511627762 (some [⟨4, [.i .i64], false⟩]) (.seq (.rg [o1 5 (.lit [.i .i64] [.int .i64 (0)])])
 (.block 0 (.loop [⟨1, [.i .i64], false⟩, ⟨5, [.i .i64], false⟩] 1099511627762
  (.seq (.seq (.rg [o1 6 (.copy 5),
    o1 7 (.copy 0),
    o1 8 (.len 7),
    o1 9 (.data (.bin .lss) [.t 6, .t 8])])
  (.cond (.t 9)
   .skip
   (.exit 0)))
  (.seq (.block 1 (.seq (.seq (.rg [o1 12 (.copy 0),
    o1 13 (.copy 5),
    o1 14 (.index 12 (.t 13)),
    o1 15 (.idx (.t 14)),
    o1 16 (.load 12 [(0, 3)] 0 (.t 15) 1 false),
    o1 17 (.copy 1),
    o1 18 (.data (.bin .neq) [.t 16, .t 17])])
  (.cond (.t 18)
   (.seq (.rg [o1 4 (.lit [.i .i64] [.int .i64 (-1)])])
   .ret)
   .skip))
  (.seq (.rg [o1 19 (.copy 1),
    o1 20 (.data (.bin .add) [.t 19, .c (.int .i64 (1))]),
    o1 1 (.copy 20)])
  (.seq (.seq (.rg [o1 21 (.copy 0),
    o1 22 (.copy 5),
    o1 23 (.index 21 (.t 22)),
    o1 24 (.idx (.t 23)),
    o1 25 (.load 21 [(0, 3)] 1 (.t 24) 1 false),
    o1 26 (.copy 1),
    o1 27 (.data (.bin .neq) [.t 25, .t 26])])
  (.cond (.t 27)
   (.seq (.rg [o1 4 (.lit [.i .i64] [.int .i64 (-1)])])
   .ret)
   .skip))
  (.seq (.rg [o1 28 (.copy 1),
    o1 29 (.data (.bin .add) [.t 28, .c (.int .i64 (1))]),
    o1 1 (.copy 29)])
  (.seq (.seq (.rg [o1 30 (.copy 0),
    o1 31 (.copy 5),
    o1 32 (.index 30 (.t 31)),
    o1 33 (.idx (.t 32)),
    o1 34 (.load 30 [(0, 3)] 2 (.t 33) 1 false),
    o1 35 (.copy 1),
    o3 36 161 [.t 35],
    o1 37 (.data (.bin .neq) [.t 34, .t 36])])
  (.cond (.t 37)
   (.seq (.rg [o1 4 (.lit [.i .i64] [.int .i64 (-1)])])
   .ret)
   .skip))
  (.rg [o1 38 (.copy 1),
    o1 39 (.data (.bin .add) [.t 38, .c (.int .i64 (1))]),
    o1 1 (.copy 39)])))))))
  (.rg [o1 10 (.copy 5),
    o1 11 (.data (.bin .add) [.t 10, .c (.int .i64 (1))]),
    o1 5 (.copy 11)])))))))
 (.seq (.rg [o1 40 (.copy 1),
   o1 4 (.copy 40)])
 .ret)))
def s_lheldPacketS : Sig := ⟨[.rd false [.sl (.own none) [.d, .d, .d]], .rd false [.d]], (.one false [.d])⟩
noncomputable def E_lheldPacketS : TEnv := envOf [(161, p_lmarkText)]
noncomputable def f_lheldPacketS (n : Nat) : (List (Int × Int × ByteArray)) × Int → Option ((Int) × Unit) := runFn n E_lheldPacketS c_lheldPacketS [[.sl [.i .i64, .i .i64, .s]], [.i .i64]] [.i .i64] [] [4] .no
noncomputable def g_lheldPacketS := f_lheldPacketS BIG
noncomputable def p_lheldPacketS : TSp := ⟨s_lheldPacketS, [[.sl [.i .i64, .i .i64, .s]], [.i .i64]], [.i .i64], [], Ou.j .no, g_lheldPacketS⟩
theorem k_lheldPacketS : chkW PG E_lheldPacketS 227 s_lheldPacketS (c_lheldPacketS.ht 41) .no = some (c_lheldPacketS.wc E_lheldPacketS, [4]) := by kernel_rfl
theorem ok_lheldPacketS : p_lheldPacketS.Ok PG 227 := mkOk (env_cons ok_lmarkText (env_nil PG)) k_lheldPacketS (by kernel_rfl)
theorem e_lheldPacketS (n : Nat) (a0 : List (Int × Int × ByteArray)) (a1 : Int) : f_lheldPacketS n (a0, a1) =
  Option.bind (loopT n (X := Int × Int) (B := (Int) ⊕ (Int)) (fun self1 x0 =>
    bif decide (x0.2 < (a0.length : Int)) then
     bnd a0.length x0.2 fun n2 =>
     Option.bind a0[n2]? fun y3 =>
     bif !decide (y3.1 = x0.1) then
      some (Sum.inr (-1 : Int))
     else bnd a0.length x0.2 fun n4 =>
     Option.bind a0[n4]? fun y5 =>
     bif !decide (y5.2.1 = (IntKind.wrap .i64 (x0.1 + (1 : Int)))) then
      some (Sum.inr (-1 : Int))
     else bnd a0.length x0.2 fun n6 =>
     Option.bind a0[n6]? fun y7 =>
     Option.bind (g_lmarkText (IntKind.wrap .i64 ((IntKind.wrap .i64 (x0.1 + (1 : Int))) + (1 : Int)))) fun r8 =>
     bif !(y7.2.2.toList == r8.1.toList) then
      some (Sum.inr (-1 : Int))
     else self1 (IntKind.wrap .i64 ((IntKind.wrap .i64 ((IntKind.wrap .i64 (x0.1 + (1 : Int))) + (1 : Int))) + (1 : Int)), IntKind.wrap .i64 (x0.2 + (1 : Int)))
    else some (Sum.inl x0.1)) (a1, (0 : Int)) : Option ((Int) ⊕ (Int))) fun y => match y with
  | .inl x9 =>
   some (x9, ())
  | .inr x9 =>
   some (x9, ()) := by kernel_rfl
/- laws.heldCallS -/
def c_lheldCallS : TC :=
 (.seq (.rg [o1 4 (.lit [.i .i64] [.int .i64 (0)])])
 (.seq (.join [⟨1, [.i .i64], false⟩] 604462909807314587353074 (some [⟨4, [.i .i64], false⟩]) (.seq (.rg [o1 5 (.lit [.i .i64] [.int .i64 (0)])])
 (.block 0 (.loop [⟨1, [.i .i64], false⟩, ⟨5, [.i .i64], false⟩] 604462909807314587353074
  (.seq (.seq (.rg [o1 6 (.copy 5),
    o1 7 (.copy 0),
    o1 8 (.len 7),
    o1 9 (.data (.bin .lss) [.t 6, .t 8])])
  (.cond (.t 9)
   .skip
   (.exit 0)))
  (.seq (.block 1 (.seq (.seq (.rg [o1 12 (.copy 0),
    o1 13 (.copy 5),
    o1 14 (.index 12 (.t 13)),
    o1 15 (.idx (.t 14)),
    o1 16 (.idx (.t 15)),
    o1 17 (.load 12 [(0, 7)] 0 (.t 16) 1 false),
    o1 18 (.copy 1),
    o1 19 (.data (.bin .neq) [.t 17, .t 18])])
  (.cond (.t 19)
   (.seq (.rg [o1 4 (.lit [.i .i64] [.int .i64 (-1)])])
   .ret)
   .skip))
  (.seq (.rg [o1 20 (.copy 1),
    o1 21 (.data (.bin .add) [.t 20, .c (.int .i64 (1))]),
    o1 1 (.copy 21)])
  (.seq (.seq (.rg [o1 22 (.copy 0),
    o1 23 (.copy 5),
    o1 24 (.index 22 (.t 23)),
    o1 25 (.idx (.t 24)),
    o1 26 (.idx (.t 25)),
    o1 27 (.load 22 [(0, 7)] 1 (.t 26) 1 false),
    o1 28 (.copy 1),
    o1 29 (.data (.bin .neq) [.t 27, .t 28])])
  (.cond (.t 29)
   (.seq (.rg [o1 4 (.lit [.i .i64] [.int .i64 (-1)])])
   .ret)
   .skip))
  (.seq (.rg [o1 30 (.copy 1),
    o1 31 (.data (.bin .add) [.t 30, .c (.int .i64 (1))]),
    o1 1 (.copy 31)])
  (.seq (.seq (.rg [o1 32 (.copy 0),
    o1 33 (.copy 5),
    o1 34 (.index 32 (.t 33)),
    o1 35 (.idx (.t 34)),
    o1 36 (.idx (.t 35)),
    o1 37 (.load 32 [(0, 7)] 2 (.t 36) 1 false),
    o1 38 (.copy 1),
    o1 39 (.data (.bin .neq) [.t 37, .t 38])])
  (.cond (.t 39)
   (.seq (.rg [o1 4 (.lit [.i .i64] [.int .i64 (-1)])])
   .ret)
   .skip))
  (.seq (.rg [o1 40 (.copy 1),
    o1 41 (.data (.bin .add) [.t 40, .c (.int .i64 (1))]),
    o1 1 (.copy 41)])
  (.seq (.seq (.rg [o1 42 (.copy 0),
    o1 43 (.copy 5),
    o1 44 (.index 42 (.t 43)),
    o1 45 (.idx (.t 44)),
    o1 46 (.idx (.t 45)),
    o1 47 (.load 42 [(0, 7)] 3 (.t 46) 1 false),
    o1 48 (.copy 1),
    o1 49 (.data (.bin .neq) [.t 47, .t 48])])
  (.cond (.t 49)
   (.seq (.rg [o1 4 (.lit [.i .i64] [.int .i64 (-1)])])
   .ret)
   .skip))
  (.seq (.rg [o1 50 (.copy 1),
    o1 51 (.data (.bin .add) [.t 50, .c (.int .i64 (1))]),
    o1 1 (.copy 51)])
  (.seq (.seq (.rg [o1 52 (.copy 0),
    o1 53 (.copy 5),
    o1 54 (.index 52 (.t 53)),
    o1 55 (.idx (.t 54)),
    o1 56 (.load 52 [(0, 7)] 4 (.t 55) 1 false),
    o1 57 (.copy 1),
    o1 58 (.data (.bin .neq) [.t 56, .t 57])])
  (.cond (.t 58)
   (.seq (.rg [o1 4 (.lit [.i .i64] [.int .i64 (-1)])])
   .ret)
   .skip))
  (.seq (.rg [o1 59 (.copy 1),
    o1 60 (.data (.bin .add) [.t 59, .c (.int .i64 (1))]),
    o1 1 (.copy 60)])
  (.seq (.seq (.rg [o1 61 (.copy 0),
    o1 62 (.copy 5),
    o1 63 (.index 61 (.t 62)),
    o1 64 (.idx (.t 63)),
    o1 65 (.load 61 [(0, 7)] 5 (.t 64) 1 false),
    o1 66 (.copy 1),
    o1 67 (.data (.bin .neq) [.t 65, .t 66])])
  (.cond (.t 67)
   (.seq (.rg [o1 4 (.lit [.i .i64] [.int .i64 (-1)])])
   .ret)
   .skip))
  (.seq (.rg [o1 68 (.copy 1),
    o1 69 (.data (.bin .add) [.t 68, .c (.int .i64 (1))]),
    o1 1 (.copy 69)])
  (.seq (.seq (.rg [o1 70 (.copy 0),
    o1 71 (.copy 5),
    o1 72 (.index 70 (.t 71)),
    o1 73 (.idx (.t 72)),
    o1 74 (.load 70 [(0, 7)] 6 (.t 73) 1 false),
    o1 75 (.copy 1),
    o1 76 (.data (.bin .neq) [.t 74, .t 75])])
  (.cond (.t 76)
   (.seq (.rg [o1 4 (.lit [.i .i64] [.int .i64 (-1)])])
   .ret)
   .skip))
  (.rg [o1 77 (.copy 1),
    o1 78 (.data (.bin .add) [.t 77, .c (.int .i64 (1))]),
    o1 1 (.copy 78)])))))))))))))))
  (.rg [o1 10 (.copy 5),
    o1 11 (.data (.bin .add) [.t 10, .c (.int .i64 (1))]),
    o1 5 (.copy 11)])))))))
 (.seq (.rg [o1 79 (.copy 1),
   o1 4 (.copy 79)])
 .ret)))
def s_lheldCallS : Sig := ⟨[.rd false [.sl (.own none) [.d, .d, .d, .d, .d, .d, .d]], .rd false [.d]], (.one false [.d])⟩
noncomputable def E_lheldCallS : TEnv := envOf []
noncomputable def f_lheldCallS (n : Nat) : (List (Int × Int × Int × Int × Int × Int × Int)) × Int → Option ((Int) × Unit) := runFn n E_lheldCallS c_lheldCallS [[.sl [.i .i64, .i .i64, .i .i64, .i .i64, .i .i64, .i .i64, .i .i64]], [.i .i64]] [.i .i64] [] [4] .no
noncomputable def g_lheldCallS := f_lheldCallS BIG
noncomputable def p_lheldCallS : TSp := ⟨s_lheldCallS, [[.sl [.i .i64, .i .i64, .i .i64, .i .i64, .i .i64, .i .i64, .i .i64]], [.i .i64]], [.i .i64], [], Ou.j .no, g_lheldCallS⟩
theorem k_lheldCallS : chkW PG E_lheldCallS 228 s_lheldCallS (c_lheldCallS.ht 80) .no = some (c_lheldCallS.wc E_lheldCallS, [4]) := by kernel_rfl
theorem ok_lheldCallS : p_lheldCallS.Ok PG 228 := mkOk (env_nil PG) k_lheldCallS (by kernel_rfl)
theorem e_lheldCallS (n : Nat) (a0 : List (Int × Int × Int × Int × Int × Int × Int)) (a1 : Int) : f_lheldCallS n (a0, a1) =
  Option.bind (loopT n (X := Int × Int) (B := (Int) ⊕ (Int)) (fun self1 x0 =>
    bif decide (x0.2 < (a0.length : Int)) then
     bnd a0.length x0.2 fun n2 =>
     Option.bind a0[n2]? fun y3 =>
     bif !decide (y3.1 = x0.1) then
      some (Sum.inr (-1 : Int))
     else bnd a0.length x0.2 fun n4 =>
     Option.bind a0[n4]? fun y5 =>
     bif !decide (y5.2.1 = (IntKind.wrap .i64 (x0.1 + (1 : Int)))) then
      some (Sum.inr (-1 : Int))
     else bnd a0.length x0.2 fun n6 =>
     Option.bind a0[n6]? fun y7 =>
     bif !decide (y7.2.2.1 = (IntKind.wrap .i64 ((IntKind.wrap .i64 (x0.1 + (1 : Int))) + (1 : Int)))) then
      some (Sum.inr (-1 : Int))
     else bnd a0.length x0.2 fun n8 =>
     Option.bind a0[n8]? fun y9 =>
     bif !decide (y9.2.2.2.1 = (IntKind.wrap .i64 ((IntKind.wrap .i64 ((IntKind.wrap .i64 (x0.1 + (1 : Int))) + (1 : Int))) + (1 : Int)))) then
      some (Sum.inr (-1 : Int))
     else bnd a0.length x0.2 fun n10 =>
     Option.bind a0[n10]? fun y11 =>
     bif !decide (y11.2.2.2.2.1 = (IntKind.wrap .i64 ((IntKind.wrap .i64 ((IntKind.wrap .i64 ((IntKind.wrap .i64 (x0.1 + (1 : Int))) + (1 : Int))) + (1 : Int))) + (1 : Int)))) then
      some (Sum.inr (-1 : Int))
     else bnd a0.length x0.2 fun n12 =>
     Option.bind a0[n12]? fun y13 =>
     bif !decide (y13.2.2.2.2.2.1 = (IntKind.wrap .i64 ((IntKind.wrap .i64 ((IntKind.wrap .i64 ((IntKind.wrap .i64 ((IntKind.wrap .i64 (x0.1 + (1 : Int))) + (1 : Int))) + (1 : Int))) + (1 : Int))) + (1 : Int)))) then
      some (Sum.inr (-1 : Int))
     else bnd a0.length x0.2 fun n14 =>
     Option.bind a0[n14]? fun y15 =>
     bif !decide (y15.2.2.2.2.2.2 = (IntKind.wrap .i64 ((IntKind.wrap .i64 ((IntKind.wrap .i64 ((IntKind.wrap .i64 ((IntKind.wrap .i64 ((IntKind.wrap .i64 (x0.1 + (1 : Int))) + (1 : Int))) + (1 : Int))) + (1 : Int))) + (1 : Int))) + (1 : Int)))) then
      some (Sum.inr (-1 : Int))
     else self1 (IntKind.wrap .i64 ((IntKind.wrap .i64 ((IntKind.wrap .i64 ((IntKind.wrap .i64 ((IntKind.wrap .i64 ((IntKind.wrap .i64 ((IntKind.wrap .i64 (x0.1 + (1 : Int))) + (1 : Int))) + (1 : Int))) + (1 : Int))) + (1 : Int))) + (1 : Int))) + (1 : Int)), IntKind.wrap .i64 (x0.2 + (1 : Int)))
    else some (Sum.inl x0.1)) (a1, (0 : Int)) : Option ((Int) ⊕ (Int))) fun y => match y with
  | .inl x16 =>
   some (x16, ())
  | .inr x16 =>
   some (x16, ()) := by kernel_rfl
/- laws.heldRecS -/
def c_lheldRecS : TC :=
 (.seq (.rg [o1 4 (.lit [.i .i64] [.int .i64 (0)])])
 (.seq (.join [⟨1, [.i .i64], false⟩] 5708990770823839524233143877797980545530986482 (some [⟨4, [.i .i64], false⟩]) (.seq (.rg [o1 5 (.lit [.i .i64] [.int .i64 (0)])])
 (.block 0 (.loop [⟨1, [.i .i64], false⟩, ⟨5, [.i .i64], false⟩] 5708990770823839524233143877797980545530986482
  (.seq (.seq (.rg [o1 6 (.copy 5),
    o1 7 (.copy 0),
    o1 8 (.len 7),
    o1 9 (.data (.bin .lss) [.t 6, .t 8])])
  (.cond (.t 9)
   .skip
   (.exit 0)))
  (.seq (.block 1 (.seq (.seq (.rg [o1 12 (.copy 0),
    o1 13 (.copy 5),
    o1 14 (.index 12 (.t 13)),
    o1 15 (.idx (.t 14)),
    o1 16 (.load 12 [(0, 14)] 0 (.t 15) 1 false),
    o1 17 (.copy 1),
    o1 18 (.data (.bin .neq) [.t 16, .t 17])])
  (.cond (.t 18)
   (.seq (.rg [o1 4 (.lit [.i .i64] [.int .i64 (-1)])])
   .ret)
   .skip))
  (.seq (.rg [o1 19 (.copy 1),
    o1 20 (.data (.bin .add) [.t 19, .c (.int .i64 (1))]),
    o1 1 (.copy 20)])
  (.seq (.seq (.rg [o1 21 (.copy 0),
    o1 22 (.copy 5),
    o1 23 (.index 21 (.t 22)),
    o1 24 (.idx (.t 23)),
    o1 25 (.idx (.t 24)),
    o1 26 (.load 21 [(0, 14)] 1 (.t 25) 1 false),
    o1 27 (.copy 1),
    o1 28 (.data (.bin .neq) [.t 26, .t 27])])
  (.cond (.t 28)
   (.seq (.rg [o1 4 (.lit [.i .i64] [.int .i64 (-1)])])
   .ret)
   .skip))
  (.seq (.rg [o1 29 (.copy 1),
    o1 30 (.data (.bin .add) [.t 29, .c (.int .i64 (1))]),
    o1 1 (.copy 30)])
  (.seq (.seq (.rg [o1 31 (.copy 0),
    o1 32 (.copy 5),
    o1 33 (.index 31 (.t 32)),
    o1 34 (.idx (.t 33)),
    o1 35 (.idx (.t 34)),
    o1 36 (.load 31 [(0, 14)] 2 (.t 35) 1 false),
    o1 37 (.copy 1),
    o1 38 (.data (.bin .neq) [.t 36, .t 37])])
  (.cond (.t 38)
   (.seq (.rg [o1 4 (.lit [.i .i64] [.int .i64 (-1)])])
   .ret)
   .skip))
  (.seq (.rg [o1 39 (.copy 1),
    o1 40 (.data (.bin .add) [.t 39, .c (.int .i64 (1))]),
    o1 1 (.copy 40)])
  (.seq (.seq (.rg [o1 41 (.copy 0),
    o1 42 (.copy 5),
    o1 43 (.index 41 (.t 42)),
    o1 44 (.idx (.t 43)),
    o1 45 (.idx (.t 44)),
    o1 46 (.load 41 [(0, 14)] 3 (.t 45) 1 false),
    o1 47 (.copy 1),
    o1 48 (.data (.bin .neq) [.t 46, .t 47])])
  (.cond (.t 48)
   (.seq (.rg [o1 4 (.lit [.i .i64] [.int .i64 (-1)])])
   .ret)
   .skip))
  (.seq (.rg [o1 49 (.copy 1),
    o1 50 (.data (.bin .add) [.t 49, .c (.int .i64 (1))]),
    o1 1 (.copy 50)])
  (.seq (.seq (.rg [o1 51 (.copy 0),
    o1 52 (.copy 5),
    o1 53 (.index 51 (.t 52)),
    o1 54 (.idx (.t 53)),
    o1 55 (.idx (.t 54)),
    o1 56 (.load 51 [(0, 14)] 4 (.t 55) 1 false),
    o1 57 (.copy 1),
    o1 58 (.data (.bin .neq) [.t 56, .t 57])])
  (.cond (.t 58)
   (.seq (.rg [o1 4 (.lit [.i .i64] [.int .i64 (-1)])])
   .ret)
   .skip))
  (.seq (.rg [o1 59 (.copy 1),
    o1 60 (.data (.bin .add) [.t 59, .c (.int .i64 (1))]),
    o1 1 (.copy 60)])
  (.seq (.seq (.rg [o1 61 (.copy 0),
    o1 62 (.copy 5),
    o1 63 (.index 61 (.t 62)),
    o1 64 (.idx (.t 63)),
    o1 65 (.load 61 [(0, 14)] 5 (.t 64) 1 false),
    o1 66 (.copy 1),
    o1 67 (.data (.bin .neq) [.t 65, .t 66])])
  (.cond (.t 67)
   (.seq (.rg [o1 4 (.lit [.i .i64] [.int .i64 (-1)])])
   .ret)
   .skip))
  (.seq (.rg [o1 68 (.copy 1),
    o1 69 (.data (.bin .add) [.t 68, .c (.int .i64 (1))]),
    o1 1 (.copy 69)])
  (.seq (.seq (.rg [o1 70 (.copy 0),
    o1 71 (.copy 5),
    o1 72 (.index 70 (.t 71)),
    o1 73 (.idx (.t 72)),
    o1 74 (.idx (.t 73)),
    o1 75 (.load 70 [(0, 14)] 6 (.t 74) 1 false),
    o1 76 (.copy 1),
    o1 77 (.data (.bin .neq) [.t 75, .t 76])])
  (.cond (.t 77)
   (.seq (.rg [o1 4 (.lit [.i .i64] [.int .i64 (-1)])])
   .ret)
   .skip))
  (.seq (.rg [o1 78 (.copy 1),
    o1 79 (.data (.bin .add) [.t 78, .c (.int .i64 (1))]),
    o1 1 (.copy 79)])
  (.seq (.seq (.rg [o1 80 (.copy 0),
    o1 81 (.copy 5),
    o1 82 (.index 80 (.t 81)),
    o1 83 (.idx (.t 82)),
    o1 84 (.idx (.t 83)),
    o1 85 (.load 80 [(0, 14)] 7 (.t 84) 1 false),
    o1 86 (.copy 1),
    o1 87 (.data (.bin .rem) [.t 86, .c (.int .i64 (3))]),
    o1 88 (.data (.bin .eql) [.t 87, .c (.int .i64 (0))]),
    o1 89 (.data (.beq true) [.t 85, .t 88])])
  (.cond (.t 89)
   (.seq (.rg [o1 4 (.lit [.i .i64] [.int .i64 (-1)])])
   .ret)
   .skip))
  (.seq (.rg [o1 90 (.copy 1),
    o1 91 (.data (.bin .add) [.t 90, .c (.int .i64 (1))]),
    o1 1 (.copy 91)])
  (.seq (.rg [o1 92 (.copy 0),
    o1 93 (.copy 5),
    o1 94 (.index 92 (.t 93)),
    o1 95 (.idx (.t 94)),
    o1 96 (.idx (.t 95)),
    o1 97 (.load 92 [(0, 14)] 8 (.t 96) 1 false),
    o1 98 (.copy 1),
    o3 99 148 [.t 97, .t 98],
    o1 1 (.copy 99)])
  (.seq (.seq (.rg [o1 100 (.copy 1),
    o1 101 (.data (.bin .lss) [.t 100, .c (.int .i64 (0))])])
  (.cond (.t 101)
   (.seq (.rg [o1 4 (.lit [.i .i64] [.int .i64 (-1)])])
   .ret)
   .skip))
  (.seq (.rg [o1 102 (.copy 0),
    o1 103 (.copy 5),
    o1 104 (.index 102 (.t 103)),
    o1 105 (.idx (.t 104)),
    o1 106 (.idx (.t 105)),
    o1 107 (.load 102 [(0, 14)] 9 (.t 106) 1 false),
    o1 108 (.copy 1),
    o3 109 149 [.t 107, .t 108],
    o1 1 (.copy 109)])
  (.seq (.seq (.rg [o1 110 (.copy 1),
    o1 111 (.data (.bin .lss) [.t 110, .c (.int .i64 (0))])])
  (.cond (.t 111)
   (.seq (.rg [o1 4 (.lit [.i .i64] [.int .i64 (-1)])])
   .ret)
   .skip))
  (.seq (.seq (.rg [o1 112 (.copy 0),
    o1 113 (.copy 5),
    o1 114 (.index 112 (.t 113)),
    o1 115 (.idx (.t 114)),
    o1 116 (.idx (.t 115)),
    o1 117 (.load 112 [(0, 14)] 10 (.t 116) 1 false),
    o1 118 (.copy 1),
    o1 119 (.data (.bin .neq) [.t 117, .t 118])])
  (.cond (.t 119)
   (.seq (.rg [o1 4 (.lit [.i .i64] [.int .i64 (-1)])])
   .ret)
   .skip))
  (.seq (.rg [o1 120 (.copy 1),
    o1 121 (.data (.bin .add) [.t 120, .c (.int .i64 (1))]),
    o1 1 (.copy 121)])
  (.seq (.seq (.rg [o1 122 (.copy 0),
    o1 123 (.copy 5),
    o1 124 (.index 122 (.t 123)),
    o1 125 (.idx (.t 124)),
    o1 126 (.idx (.t 125)),
    o1 127 (.load 122 [(0, 14)] 11 (.t 126) 1 false),
    o1 128 (.copy 1),
    o1 129 (.data (.bin .neq) [.t 127, .t 128])])
  (.cond (.t 129)
   (.seq (.rg [o1 4 (.lit [.i .i64] [.int .i64 (-1)])])
   .ret)
   .skip))
  (.seq (.rg [o1 130 (.copy 1),
    o1 131 (.data (.bin .add) [.t 130, .c (.int .i64 (1))]),
    o1 1 (.copy 131)])
  (.seq (.rg [o1 132 (.copy 0),
    o1 133 (.copy 5),
    o1 134 (.index 132 (.t 133)),
    o1 135 (.idx (.t 134)),
    o1 136 (.idx (.t 135)),
    o1 137 (.load 132 [(0, 14)] 12 (.t 136) 1 false),
    o1 138 (.copy 1),
    o3 139 148 [.t 137, .t 138],
    o1 1 (.copy 139)])
  (.seq (.seq (.rg [o1 140 (.copy 1),
    o1 141 (.data (.bin .lss) [.t 140, .c (.int .i64 (0))])])
  (.cond (.t 141)
   (.seq (.rg [o1 4 (.lit [.i .i64] [.int .i64 (-1)])])
   .ret)
   .skip))
  (.seq (.seq (.rg [o1 142 (.copy 0),
    o1 143 (.copy 5),
    o1 144 (.index 142 (.t 143)),
    o1 145 (.idx (.t 144)),
    o1 146 (.idx (.t 145)),
    o1 147 (.load 142 [(0, 14)] 13 (.t 146) 1 false),
    o1 148 (.copy 1),
    o1 149 (.data (.bin .neq) [.t 147, .t 148])])
  (.cond (.t 149)
   (.seq (.rg [o1 4 (.lit [.i .i64] [.int .i64 (-1)])])
   .ret)
   .skip))
  (.rg [o1 150 (.copy 1),
    o1 151 (.data (.bin .add) [.t 150, .c (.int .i64 (1))]),
    o1 1 (.copy 151)])))))))))))))))))))))))))))))
  (.rg [o1 10 (.copy 5),
    o1 11 (.data (.bin .add) [.t 10, .c (.int .i64 (1))]),
    o1 5 (.copy 11)])))))))
 (.seq (.rg [o1 152 (.copy 1),
   o1 4 (.copy 152)])
 .ret)))
def s_lheldRecS : Sig := ⟨[.rd false [.sl (.own none) [.d, .d, .d, .d, .d, .d, .d, .d, .sl (.own none) [.d, .d], .sl (.own none) [.d], .d, .d, .sl (.own none) [.d, .d], .d]], .rd false [.d]], (.one false [.d])⟩
noncomputable def E_lheldRecS : TEnv := envOf [(148, p_lheldEdgeS), (149, p_lheldIntS)]
noncomputable def f_lheldRecS (n : Nat) : (List (Int × Int × Int × Int × Int × Int × Int × Bool × List (Int × Int) × List (Int) × Int × Int × List (Int × Int) × Int)) × Int → Option ((Int) × Unit) := runFn n E_lheldRecS c_lheldRecS [[.sl [.i .i64, .i .i64, .i .i64, .i .i64, .i .i64, .i .i64, .i .i64, .b, .sl [.i .i64, .i .i64], .sl [.i .i64], .i .i64, .i .i64, .sl [.i .i64, .i .i64], .i .i64]], [.i .i64]] [.i .i64] [] [4] .no
noncomputable def g_lheldRecS := f_lheldRecS BIG
noncomputable def p_lheldRecS : TSp := ⟨s_lheldRecS, [[.sl [.i .i64, .i .i64, .i .i64, .i .i64, .i .i64, .i .i64, .i .i64, .b, .sl [.i .i64, .i .i64], .sl [.i .i64], .i .i64, .i .i64, .sl [.i .i64, .i .i64], .i .i64]], [.i .i64]], [.i .i64], [], Ou.j .no, g_lheldRecS⟩
theorem k_lheldRecS : chkW PG E_lheldRecS 58 s_lheldRecS (c_lheldRecS.ht 153) .no = some (c_lheldRecS.wc E_lheldRecS, [4]) := by kernel_rfl
theorem ok_lheldRecS : p_lheldRecS.Ok PG 58 := mkOk (env_cons ok_lheldEdgeS (env_cons ok_lheldIntS (env_nil PG))) k_lheldRecS (by kernel_rfl)
theorem e_lheldRecS (n : Nat) (a0 : List (Int × Int × Int × Int × Int × Int × Int × Bool × (List (Int × Int)) × (List (Int)) × Int × Int × (List (Int × Int)) × Int)) (a1 : Int) : f_lheldRecS n (a0, a1) =
  Option.bind (loopT n (X := Int × Int) (B := (Int) ⊕ (Int)) (fun self1 x0 =>
    bif decide (x0.2 < (a0.length : Int)) then
     bnd a0.length x0.2 fun n2 =>
     Option.bind a0[n2]? fun y3 =>
     bif !decide (y3.1 = x0.1) then
      some (Sum.inr (-1 : Int))
     else bnd a0.length x0.2 fun n4 =>
     Option.bind a0[n4]? fun y5 =>
     bif !decide (y5.2.1 = (IntKind.wrap .i64 (x0.1 + (1 : Int)))) then
      some (Sum.inr (-1 : Int))
     else bnd a0.length x0.2 fun n6 =>
     Option.bind a0[n6]? fun y7 =>
     bif !decide (y7.2.2.1 = (IntKind.wrap .i64 ((IntKind.wrap .i64 (x0.1 + (1 : Int))) + (1 : Int)))) then
      some (Sum.inr (-1 : Int))
     else bnd a0.length x0.2 fun n8 =>
     Option.bind a0[n8]? fun y9 =>
     bif !decide (y9.2.2.2.1 = (IntKind.wrap .i64 ((IntKind.wrap .i64 ((IntKind.wrap .i64 (x0.1 + (1 : Int))) + (1 : Int))) + (1 : Int)))) then
      some (Sum.inr (-1 : Int))
     else bnd a0.length x0.2 fun n10 =>
     Option.bind a0[n10]? fun y11 =>
     bif !decide (y11.2.2.2.2.1 = (IntKind.wrap .i64 ((IntKind.wrap .i64 ((IntKind.wrap .i64 ((IntKind.wrap .i64 (x0.1 + (1 : Int))) + (1 : Int))) + (1 : Int))) + (1 : Int)))) then
      some (Sum.inr (-1 : Int))
     else bnd a0.length x0.2 fun n12 =>
     Option.bind a0[n12]? fun y13 =>
     bif !decide (y13.2.2.2.2.2.1 = (IntKind.wrap .i64 ((IntKind.wrap .i64 ((IntKind.wrap .i64 ((IntKind.wrap .i64 ((IntKind.wrap .i64 (x0.1 + (1 : Int))) + (1 : Int))) + (1 : Int))) + (1 : Int))) + (1 : Int)))) then
      some (Sum.inr (-1 : Int))
     else bnd a0.length x0.2 fun n14 =>
     Option.bind a0[n14]? fun y15 =>
     bif !decide (y15.2.2.2.2.2.2.1 = (IntKind.wrap .i64 ((IntKind.wrap .i64 ((IntKind.wrap .i64 ((IntKind.wrap .i64 ((IntKind.wrap .i64 ((IntKind.wrap .i64 (x0.1 + (1 : Int))) + (1 : Int))) + (1 : Int))) + (1 : Int))) + (1 : Int))) + (1 : Int)))) then
      some (Sum.inr (-1 : Int))
     else bnd a0.length x0.2 fun n16 =>
     Option.bind a0[n16]? fun y17 =>
     bif decide ((3 : Int) = 0) then
      none
     else bif !(y17.2.2.2.2.2.2.2.1 == (decide ((Int.tmod (IntKind.wrap .i64 ((IntKind.wrap .i64 ((IntKind.wrap .i64 ((IntKind.wrap .i64 ((IntKind.wrap .i64 ((IntKind.wrap .i64 ((IntKind.wrap .i64 (x0.1 + (1 : Int))) + (1 : Int))) + (1 : Int))) + (1 : Int))) + (1 : Int))) + (1 : Int))) + (1 : Int))) (3 : Int)) = (0 : Int)))) then
      some (Sum.inr (-1 : Int))
     else bnd a0.length x0.2 fun n18 =>
     Option.bind a0[n18]? fun y19 =>
     Option.bind (g_lheldEdgeS (y19.2.2.2.2.2.2.2.2.1, IntKind.wrap .i64 ((IntKind.wrap .i64 ((IntKind.wrap .i64 ((IntKind.wrap .i64 ((IntKind.wrap .i64 ((IntKind.wrap .i64 ((IntKind.wrap .i64 ((IntKind.wrap .i64 (x0.1 + (1 : Int))) + (1 : Int))) + (1 : Int))) + (1 : Int))) + (1 : Int))) + (1 : Int))) + (1 : Int))) + (1 : Int)))) fun r20 =>
     bif decide (r20.1 < (0 : Int)) then
      some (Sum.inr (-1 : Int))
     else bnd a0.length x0.2 fun n21 =>
     Option.bind a0[n21]? fun y22 =>
     Option.bind (g_lheldIntS (y22.2.2.2.2.2.2.2.2.2.1, r20.1)) fun r23 =>
     bif decide (r23.1 < (0 : Int)) then
      some (Sum.inr (-1 : Int))
     else bnd a0.length x0.2 fun n24 =>
     Option.bind a0[n24]? fun y25 =>
     bif !decide (y25.2.2.2.2.2.2.2.2.2.2.1 = r23.1) then
      some (Sum.inr (-1 : Int))
     else bnd a0.length x0.2 fun n26 =>
     Option.bind a0[n26]? fun y27 =>
     bif !decide (y27.2.2.2.2.2.2.2.2.2.2.2.1 = (IntKind.wrap .i64 (r23.1 + (1 : Int)))) then
      some (Sum.inr (-1 : Int))
     else bnd a0.length x0.2 fun n28 =>
     Option.bind a0[n28]? fun y29 =>
     Option.bind (g_lheldEdgeS (y29.2.2.2.2.2.2.2.2.2.2.2.2.1, IntKind.wrap .i64 ((IntKind.wrap .i64 (r23.1 + (1 : Int))) + (1 : Int)))) fun r30 =>
     bif decide (r30.1 < (0 : Int)) then
      some (Sum.inr (-1 : Int))
     else bnd a0.length x0.2 fun n31 =>
     Option.bind a0[n31]? fun y32 =>
     bif !decide (y32.2.2.2.2.2.2.2.2.2.2.2.2.2 = r30.1) then
      some (Sum.inr (-1 : Int))
     else self1 (IntKind.wrap .i64 (r30.1 + (1 : Int)), IntKind.wrap .i64 (x0.2 + (1 : Int)))
    else some (Sum.inl x0.1)) (a1, (0 : Int)) : Option ((Int) ⊕ (Int))) fun y => match y with
  | .inl x33 =>
   some (x33, ())
  | .inr x33 =>
   some (x33, ()) := by kernel_rfl
/- laws.heldWorld -/
def c_lheldWorld : TC :=
 (.seq (.rg [o1 2 (.a (.t 0)),
   o1 4 (.lit [.i .i64] [.int .i64 (0)])])
 (.seq (.rg [o1 5 (.idx .nil),
   o1 6 (.load 2 [] 1 (.t 5) 15 false),
   o1 7 (.copy 1),
   o3 8 78 [.t 6, .t 7],
   o1 1 (.copy 8)])
 (.seq (.seq (.rg [o1 9 (.copy 1),
   o1 10 (.data (.bin .lss) [.t 9, .c (.int .i64 (0))])])
 (.cond (.t 10)
  (.seq (.rg [o1 4 (.lit [.i .i64] [.int .i64 (-1)])])
  .ret)
  .skip))
 (.seq (.rg [o1 11 (.idx .nil),
   o1 12 (.load 2 [] 16 (.t 11) 1 false),
   o1 13 (.copy 1),
   o3 14 224 [.t 12, .t 13],
   o1 1 (.copy 14)])
 (.seq (.seq (.rg [o1 15 (.copy 1),
   o1 16 (.data (.bin .lss) [.t 15, .c (.int .i64 (0))])])
 (.cond (.t 16)
  (.seq (.rg [o1 4 (.lit [.i .i64] [.int .i64 (-1)])])
  .ret)
  .skip))
 (.seq (.rg [o1 17 (.idx .nil),
   o1 18 (.load 2 [] 17 (.t 17) 1 false),
   o1 19 (.copy 1),
   o3 20 225 [.t 18, .t 19],
   o1 1 (.copy 20)])
 (.seq (.seq (.rg [o1 21 (.copy 1),
   o1 22 (.data (.bin .lss) [.t 21, .c (.int .i64 (0))])])
 (.cond (.t 22)
  (.seq (.rg [o1 4 (.lit [.i .i64] [.int .i64 (-1)])])
  .ret)
  .skip))
 (.seq (.rg [o1 23 (.idx .nil),
   o1 24 (.load 2 [] 18 (.t 23) 1 false),
   o1 25 (.copy 1),
   o3 26 226 [.t 24, .t 25],
   o1 1 (.copy 26)])
 (.seq (.seq (.rg [o1 27 (.copy 1),
   o1 28 (.data (.bin .lss) [.t 27, .c (.int .i64 (0))])])
 (.cond (.t 28)
  (.seq (.rg [o1 4 (.lit [.i .i64] [.int .i64 (-1)])])
  .ret)
  .skip))
 (.seq (.rg [o1 29 (.idx .nil),
   o1 30 (.load 2 [] 19 (.t 29) 1 false),
   o1 31 (.copy 1),
   o3 32 227 [.t 30, .t 31],
   o1 1 (.copy 32)])
 (.seq (.seq (.rg [o1 33 (.copy 1),
   o1 34 (.data (.bin .lss) [.t 33, .c (.int .i64 (0))])])
 (.cond (.t 34)
  (.seq (.rg [o1 4 (.lit [.i .i64] [.int .i64 (-1)])])
  .ret)
  .skip))
 (.seq (.rg [o1 35 (.idx .nil),
   o1 36 (.load 2 [] 20 (.t 35) 1 false),
   o1 37 (.copy 1),
   o3 38 228 [.t 36, .t 37],
   o1 1 (.copy 38)])
 (.seq (.seq (.rg [o1 39 (.copy 1),
   o1 40 (.data (.bin .lss) [.t 39, .c (.int .i64 (0))])])
 (.cond (.t 40)
  (.seq (.rg [o1 4 (.lit [.i .i64] [.int .i64 (-1)])])
  .ret)
  .skip))
 (.seq (.rg [o1 41 (.idx .nil),
   o1 42 (.load 2 [] 21 (.t 41) 1 false),
   o1 43 (.copy 1),
   o3 44 58 [.t 42, .t 43],
   o1 1 (.copy 44)])
 (.seq (.seq (.rg [o1 45 (.copy 1),
   o1 46 (.data (.bin .lss) [.t 45, .c (.int .i64 (0))])])
 (.cond (.t 46)
  (.seq (.rg [o1 4 (.lit [.i .i64] [.int .i64 (-1)])])
  .ret)
  .skip))
 (.seq (.rg [o1 47 (.copy 1),
   o1 4 (.copy 47)])
 .ret))))))))))))))))
def s_lheldWorld : Sig := ⟨[.rd true [.d, .d, .sl (.own none) [.d], .sl (.own none) [.d, .d], .sl (.own none) [.sl (.own none) [.d]], .sl (.own none) [.d], .d, .d, .d, .d, .d, .d, .d, .sl (.own none) [.d, .d], .d, .sl (.own none) [.d, .d, .d, .d, .d, .d], .sl (.own none) [.d, .d, .sl (.own none) [.d, .d, .d, .d], .d, .d, .sl (.own none) [.d, .d], .sl (.own none) [.d]], .sl (.own none) [.sl (.own none) [.d, .d, .d]], .sl (.own none) [.d], .sl (.own none) [.d, .d, .d], .sl (.own none) [.d, .d, .d, .d, .d, .d, .d], .sl (.own none) [.d, .d, .d, .d, .d, .d, .d, .d, .sl (.own none) [.d, .d], .sl (.own none) [.d], .d, .d, .sl (.own none) [.d, .d], .d]], .rd false [.d]], (.one false [.d])⟩
noncomputable def E_lheldWorld : TEnv := envOf [(78, p_lheldHead), (224, p_lheldShardS), (225, p_lheldDiskS), (226, p_lheldBoolS), (227, p_lheldPacketS), (228, p_lheldCallS), (58, p_lheldRecS)]
noncomputable def f_lheldWorld (n : Nat) : (Int × Int × List (Int) × List (Int × Int) × List (List (Int)) × List (Int) × Int × Int × Int × Int × Int × Int × Int × List (Int × Int) × Int × List (Int × Int × Int × Int × Int × Int) × List (Int × Int × List (Int × Int × Int × Bool) × Int × Bool × List (Int × Int) × List (Int)) × List (List (ByteArray × ByteArray × Int)) × List (Bool) × List (Int × Int × ByteArray) × List (Int × Int × Int × Int × Int × Int × Int) × List (Int × Int × Int × Int × Int × Int × Int × Bool × List (Int × Int) × List (Int) × Int × Int × List (Int × Int) × Int)) × Int → Option ((Int) × Unit) := runFn n E_lheldWorld c_lheldWorld [[.i .i64, .i .i64, .sl [.i .i64], .sl [.i .i64, .i .i64], .sl [.sl [.i .i64]], .sl [.i .i64], .i .i64, .i .i64, .i .i64, .i .i64, .i .i64, .i .i64, .i .i64, .sl [.i .i64, .i .i64], .i .i64, .sl [.i .i64, .i .i64, .i .i64, .i .i64, .i .i64, .i .i64], .sl [.i .i64, .i .i64, .sl [.i .i64, .i .i64, .i .i64, .b], .i .i64, .b, .sl [.i .i64, .i .i64], .sl [.i .i64]], .sl [.sl [.s, .s, .i .i64]], .sl [.b], .sl [.i .i64, .i .i64, .s], .sl [.i .i64, .i .i64, .i .i64, .i .i64, .i .i64, .i .i64, .i .i64], .sl [.i .i64, .i .i64, .i .i64, .i .i64, .i .i64, .i .i64, .i .i64, .b, .sl [.i .i64, .i .i64], .sl [.i .i64], .i .i64, .i .i64, .sl [.i .i64, .i .i64], .i .i64]], [.i .i64]] [.i .i64] [] [4] .no
noncomputable def g_lheldWorld := f_lheldWorld BIG
noncomputable def p_lheldWorld : TSp := ⟨s_lheldWorld, [[.i .i64, .i .i64, .sl [.i .i64], .sl [.i .i64, .i .i64], .sl [.sl [.i .i64]], .sl [.i .i64], .i .i64, .i .i64, .i .i64, .i .i64, .i .i64, .i .i64, .i .i64, .sl [.i .i64, .i .i64], .i .i64, .sl [.i .i64, .i .i64, .i .i64, .i .i64, .i .i64, .i .i64], .sl [.i .i64, .i .i64, .sl [.i .i64, .i .i64, .i .i64, .b], .i .i64, .b, .sl [.i .i64, .i .i64], .sl [.i .i64]], .sl [.sl [.s, .s, .i .i64]], .sl [.b], .sl [.i .i64, .i .i64, .s], .sl [.i .i64, .i .i64, .i .i64, .i .i64, .i .i64, .i .i64, .i .i64], .sl [.i .i64, .i .i64, .i .i64, .i .i64, .i .i64, .i .i64, .i .i64, .b, .sl [.i .i64, .i .i64], .sl [.i .i64], .i .i64, .i .i64, .sl [.i .i64, .i .i64], .i .i64]], [.i .i64]], [.i .i64], [], Ou.j .no, g_lheldWorld⟩
theorem k_lheldWorld : chkW PG E_lheldWorld 89 s_lheldWorld (c_lheldWorld.ht 48) .no = some (c_lheldWorld.wc E_lheldWorld, [4]) := by kernel_rfl
theorem ok_lheldWorld : p_lheldWorld.Ok PG 89 := mkOk (env_cons ok_lheldHead (env_cons ok_lheldShardS (env_cons ok_lheldDiskS (env_cons ok_lheldBoolS (env_cons ok_lheldPacketS (env_cons ok_lheldCallS (env_cons ok_lheldRecS (env_nil PG)))))))) k_lheldWorld (by kernel_rfl)
theorem e_lheldWorld (n : Nat) (a0 : Int × Int × List (Int) × List (Int × Int) × List ((List (Int))) × List (Int) × Int × Int × Int × Int × Int × Int × Int × List (Int × Int) × Int × List (Int × Int × Int × Int × Int × Int) × List (Int × Int × (List (Int × Int × Int × Bool)) × Int × Bool × (List (Int × Int)) × (List (Int))) × List ((List (ByteArray × ByteArray × Int))) × List (Bool) × List (Int × Int × ByteArray) × List (Int × Int × Int × Int × Int × Int × Int) × List (Int × Int × Int × Int × Int × Int × Int × Bool × (List (Int × Int)) × (List (Int)) × Int × Int × (List (Int × Int)) × Int)) (a1 : Int) : f_lheldWorld n (a0, a1) =
  Option.bind (g_lheldHead ((a0.2.1, a0.2.2.1, a0.2.2.2.1, a0.2.2.2.2.1, a0.2.2.2.2.2.1, a0.2.2.2.2.2.2.1, a0.2.2.2.2.2.2.2.1, a0.2.2.2.2.2.2.2.2.1, a0.2.2.2.2.2.2.2.2.2.1, a0.2.2.2.2.2.2.2.2.2.2.1, a0.2.2.2.2.2.2.2.2.2.2.2.1, a0.2.2.2.2.2.2.2.2.2.2.2.2.1, a0.2.2.2.2.2.2.2.2.2.2.2.2.2.1, a0.2.2.2.2.2.2.2.2.2.2.2.2.2.2.1, a0.2.2.2.2.2.2.2.2.2.2.2.2.2.2.2.1), a1)) fun r0 =>
  bif decide (r0.1 < (0 : Int)) then
   some ((-1 : Int), ())
  else Option.bind (g_lheldShardS (a0.2.2.2.2.2.2.2.2.2.2.2.2.2.2.2.2.1, r0.1)) fun r1 =>
  bif decide (r1.1 < (0 : Int)) then
   some ((-1 : Int), ())
  else Option.bind (g_lheldDiskS (a0.2.2.2.2.2.2.2.2.2.2.2.2.2.2.2.2.2.1, r1.1)) fun r2 =>
  bif decide (r2.1 < (0 : Int)) then
   some ((-1 : Int), ())
  else Option.bind (g_lheldBoolS (a0.2.2.2.2.2.2.2.2.2.2.2.2.2.2.2.2.2.2.1, r2.1)) fun r3 =>
  bif decide (r3.1 < (0 : Int)) then
   some ((-1 : Int), ())
  else Option.bind (g_lheldPacketS (a0.2.2.2.2.2.2.2.2.2.2.2.2.2.2.2.2.2.2.2.1, r3.1)) fun r4 =>
  bif decide (r4.1 < (0 : Int)) then
   some ((-1 : Int), ())
  else Option.bind (g_lheldCallS (a0.2.2.2.2.2.2.2.2.2.2.2.2.2.2.2.2.2.2.2.2.1, r4.1)) fun r5 =>
  bif decide (r5.1 < (0 : Int)) then
   some ((-1 : Int), ())
  else Option.bind (g_lheldRecS (a0.2.2.2.2.2.2.2.2.2.2.2.2.2.2.2.2.2.2.2.2.2, r5.1)) fun r6 =>
  bif decide (r6.1 < (0 : Int)) then
   some ((-1 : Int), ())
  else some (r6.1, ()) := by kernel_rfl
/- laws.FnExactWorldNew -/
def c_lFnExactWorldNew : TC :=
 (.seq (.rg [o1 4 (.lit [.b] [.bool false])])
 (.seq (.rg [o1 14 (.copy 0),
   o1 15 (.copy 1),
   o3 16 86 [.t 14, .t 15],
   ⟨false, [], [], .det 2 (.copy 16), [13, 16], (some 13), none⟩,
   ⟨false, [], [], .det 2 (.ext 13 0 22), [17, 13], (some 17), none⟩,
   o1 18 (.ext 13 22 1),
   ⟨false, [], [], .det 2 (.a (.c [.i .i64, .i .i64, .sl [.i .i64], .sl [.i .i64, .i .i64], .sl [.sl [.i .i64]], .sl [.i .i64], .i .i64, .i .i64, .i .i64, .i .i64, .i .i64, .i .i64, .i .i64, .sl [.i .i64, .i .i64], .i .i64, .sl [.i .i64, .i .i64, .i .i64, .i .i64, .i .i64, .i .i64], .sl [.i .i64, .i .i64, .sl [.i .i64, .i .i64, .i .i64, .b], .i .i64, .b, .sl [.i .i64, .i .i64], .sl [.i .i64]], .sl [.sl [.s, .s, .i .i64]], .sl [.b], .sl [.i .i64, .i .i64, .s], .sl [.i .i64, .i .i64, .i .i64, .i .i64, .i .i64, .i .i64, .i .i64], .sl [.i .i64, .i .i64, .i .i64, .i .i64, .i .i64, .i .i64, .i .i64, .b, .sl [.i .i64, .i .i64], .sl [.i .i64], .i .i64, .i .i64, .sl [.i .i64, .i .i64], .i .i64]] [.int .i64 (0), .int .i64 (0), .slice none 0 0, .slice none 0 0, .slice none 0 0, .slice none 0 0, .int .i64 (0), .int .i64 (0), .int .i64 (0), .int .i64 (0), .int .i64 (0), .int .i64 (0), .int .i64 (0), .slice none 0 0, .int .i64 (0), .slice none 0 0, .slice none 0 0, .slice none 0 0, .slice none 0 0, .slice none 0 0, .slice none 0 0, .slice none 0 0])), [5, 1000000001], (some 5), none⟩,
   o4 2 [5, 17] (.store 5 [] 0 .nil (.t 17)),
   o1 6 (.copy 18)])
 (.seq (.rg [o1 20 (.copy 0),
   o1 21 (.copy 1),
   o3 22 87 [.t 20, .t 21],
   ⟨false, [], [], .det 2 (.copy 22), [19, 22], (some 19), none⟩,
   ⟨false, [], [], .det 2 (.ext 19 0 22), [23, 19], (some 23), none⟩,
   o1 24 (.ext 19 22 1),
   ⟨false, [], [], .det 2 (.a (.c [.i .i64, .i .i64, .sl [.i .i64], .sl [.i .i64, .i .i64], .sl [.sl [.i .i64]], .sl [.i .i64], .i .i64, .i .i64, .i .i64, .i .i64, .i .i64, .i .i64, .i .i64, .sl [.i .i64, .i .i64], .i .i64, .sl [.i .i64, .i .i64, .i .i64, .i .i64, .i .i64, .i .i64], .sl [.i .i64, .i .i64, .sl [.i .i64, .i .i64, .i .i64, .b], .i .i64, .b, .sl [.i .i64, .i .i64], .sl [.i .i64]], .sl [.sl [.s, .s, .i .i64]], .sl [.b], .sl [.i .i64, .i .i64, .s], .sl [.i .i64, .i .i64, .i .i64, .i .i64, .i .i64, .i .i64, .i .i64], .sl [.i .i64, .i .i64, .i .i64, .i .i64, .i .i64, .i .i64, .i .i64, .b, .sl [.i .i64, .i .i64], .sl [.i .i64], .i .i64, .i .i64, .sl [.i .i64, .i .i64], .i .i64]] [.int .i64 (0), .int .i64 (0), .slice none 0 0, .slice none 0 0, .slice none 0 0, .slice none 0 0, .int .i64 (0), .int .i64 (0), .int .i64 (0), .int .i64 (0), .int .i64 (0), .int .i64 (0), .int .i64 (0), .slice none 0 0, .int .i64 (0), .slice none 0 0, .slice none 0 0, .slice none 0 0, .slice none 0 0, .slice none 0 0, .slice none 0 0, .slice none 0 0])), [7, 1000000001], (some 7), none⟩,
   o4 2 [7, 23] (.store 7 [] 0 .nil (.t 23)),
   o1 8 (.copy 24)])
 (.seq (.seq (.join [⟨33, [.b], false⟩] 17146314752 none (.rg [o1 25 (.load 7 [] 0 .nil 22 true),
   o1 26 (.load 5 [] 0 .nil 22 true),
   o3 27 85 [.t 25, .t 26],
   o1 28 (.data .not [.t 27]),
   o1 29 (.copy 28),
   o2 30 (.copy 8) 4 false,
   o2 31 (.copy 6) 4 false,
   o2 32 (.data (.beq true) [.t 30, .t 31]) 4 false,
   ⟨false, [], [], .pick 29 (.c (.bool true)) (.t 32), [33], (some 33), none⟩]))
 (.cond (.t 33)
  (.seq (.rg [o1 4 (.lit [.b] [.bool false])])
  .ret)
  .skip))
 (.seq (.rg [o1 9 (.lit [.i .i64] [.int .i64 (1)])])
 (.seq (.rg [o1 34 (.load 7 [] 0 .nil 22 true),
   o1 35 (.copy 9),
   ⟨false, [], [], .call 2 88 [.t 34, .t 35] (.mt 7 [] 0 34 0), [36, 7, 25, 34], (some 36), none⟩,
   o1 9 (.copy 36)])
 (.seq (.rg [o1 10 (.lit [.i .i64] [.int .i64 (1)])])
 (.seq (.rg [o1 37 (.load 7 [] 0 .nil 22 true),
   o1 38 (.copy 10),
   o3 39 89 [.t 37, .t 38],
   o1 10 (.copy 39)])
 (.seq (.seq (.rg [o1 40 (.copy 10),
   o1 41 (.data (.bin .lss) [.t 40, .c (.int .i64 (0))])])
 (.cond (.t 41)
  (.seq (.rg [o1 4 (.lit [.b] [.bool false])])
  .ret)
  .skip))
 (.seq (.seq (.rg [o1 42 (.copy 10),
   o1 43 (.copy 9),
   o1 44 (.data (.bin .neq) [.t 42, .t 43])])
 (.cond (.t 44)
  (.seq (.rg [o1 4 (.lit [.b] [.bool false])])
  .ret)
  .skip))
 (.seq (.rg [o1 46 (.copy 0),
   o1 47 (.copy 1),
   o3 48 87 [.t 46, .t 47],
   ⟨false, [], [], .det 2 (.copy 48), [45, 48], (some 45), none⟩,
   ⟨false, [], [], .det 2 (.ext 45 0 22), [49, 45], (some 49), none⟩,
   o1 50 (.ext 45 22 1),
   ⟨false, [], [], .det 2 (.a (.c [.i .i64, .i .i64, .sl [.i .i64], .sl [.i .i64, .i .i64], .sl [.sl [.i .i64]], .sl [.i .i64], .i .i64, .i .i64, .i .i64, .i .i64, .i .i64, .i .i64, .i .i64, .sl [.i .i64, .i .i64], .i .i64, .sl [.i .i64, .i .i64, .i .i64, .i .i64, .i .i64, .i .i64], .sl [.i .i64, .i .i64, .sl [.i .i64, .i .i64, .i .i64, .b], .i .i64, .b, .sl [.i .i64, .i .i64], .sl [.i .i64]], .sl [.sl [.s, .s, .i .i64]], .sl [.b], .sl [.i .i64, .i .i64, .s], .sl [.i .i64, .i .i64, .i .i64, .i .i64, .i .i64, .i .i64, .i .i64], .sl [.i .i64, .i .i64, .i .i64, .i .i64, .i .i64, .i .i64, .i .i64, .b, .sl [.i .i64, .i .i64], .sl [.i .i64], .i .i64, .i .i64, .sl [.i .i64, .i .i64], .i .i64]] [.int .i64 (0), .int .i64 (0), .slice none 0 0, .slice none 0 0, .slice none 0 0, .slice none 0 0, .int .i64 (0), .int .i64 (0), .int .i64 (0), .int .i64 (0), .int .i64 (0), .int .i64 (0), .int .i64 (0), .slice none 0 0, .int .i64 (0), .slice none 0 0, .slice none 0 0, .slice none 0 0, .slice none 0 0, .slice none 0 0, .slice none 0 0, .slice none 0 0])), [11, 1000000001], (some 11), none⟩,
   o4 2 [11, 49] (.store 11 [] 0 .nil (.t 49)),
   o1 12 (.copy 50)])
 (.seq (.seq (.join [⟨59, [.b], false⟩] 1150669704793161728 none (.rg [o1 51 (.load 11 [] 0 .nil 22 true),
   o1 52 (.load 5 [] 0 .nil 22 true),
   o3 53 85 [.t 51, .t 52],
   o1 54 (.data .not [.t 53]),
   o1 55 (.copy 54),
   o2 56 (.copy 12) 4 false,
   o2 57 (.copy 6) 4 false,
   o2 58 (.data (.beq true) [.t 56, .t 57]) 4 false,
   ⟨false, [], [], .pick 55 (.c (.bool true)) (.t 58), [59], (some 59), none⟩]))
 (.cond (.t 59)
  (.seq (.rg [o1 4 (.lit [.b] [.bool false])])
  .ret)
  .skip))
 (.seq (.rg [o1 10 (.lit [.i .i64] [.int .i64 (1)])])
 (.seq (.rg [o1 60 (.load 7 [] 0 .nil 22 true),
   o1 61 (.copy 10),
   o3 62 89 [.t 60, .t 61],
   o1 10 (.copy 62)])
 (.seq (.seq (.rg [o1 63 (.copy 10),
   o1 64 (.data (.bin .lss) [.t 63, .c (.int .i64 (0))])])
 (.cond (.t 64)
  (.seq (.rg [o1 4 (.lit [.b] [.bool false])])
  .ret)
  .skip))
 (.seq (.seq (.rg [o1 65 (.copy 10),
   o1 66 (.copy 9),
   o1 67 (.data (.bin .neq) [.t 65, .t 66])])
 (.cond (.t 67)
  (.seq (.rg [o1 4 (.lit [.b] [.bool false])])
  .ret)
  .skip))
 (.seq (.rg [o1 4 (.lit [.b] [.bool true])])
 .ret)))))))))))))))))
def s_lFnExactWorldNew : Sig := ⟨[.rd false [.d], .rd false [.d]], (.one false [.d])⟩
noncomputable def E_lFnExactWorldNew : TEnv := envOf [(86, p_sWorldNew), (87, p_iWorldNew), (85, p_leqWorld), (88, p_lmarkWorld), (89, p_lheldWorld)]
noncomputable def f_lFnExactWorldNew (n : Nat) : Int × Int → Option ((Bool) × Unit) := runFn n E_lFnExactWorldNew c_lFnExactWorldNew [[.i .i64], [.i .i64]] [.b] [] [4] .no
noncomputable def g_lFnExactWorldNew := f_lFnExactWorldNew BIG
noncomputable def p_lFnExactWorldNew : TSp := ⟨s_lFnExactWorldNew, [[.i .i64], [.i .i64]], [.b], [], Ou.j .no, g_lFnExactWorldNew⟩
theorem k_lFnExactWorldNew : chkW PG E_lFnExactWorldNew 16 s_lFnExactWorldNew (c_lFnExactWorldNew.ht 68) .no = some (c_lFnExactWorldNew.wc E_lFnExactWorldNew, [4]) := by kernel_rfl
theorem ok_lFnExactWorldNew : p_lFnExactWorldNew.Ok PG 16 := mkOk (env_cons ok_sWorldNew (env_cons ok_iWorldNew (env_cons ok_leqWorld (env_cons ok_lmarkWorld (env_cons ok_lheldWorld (env_nil PG)))))) k_lFnExactWorldNew (by kernel_rfl)
theorem e_lFnExactWorldNew (n : Nat) (a0 : Int) (a1 : Int) : f_lFnExactWorldNew n (a0, a1) =
  Option.bind (g_sWorldNew (a0, a1)) fun r0 =>
  Option.bind (g_iWorldNew (a0, a1)) fun r1 =>
  Option.bind (Option.bind (g_leqWorld ((r1.1.1, r1.1.2.1, r1.1.2.2.1, r1.1.2.2.2.1, r1.1.2.2.2.2.1, r1.1.2.2.2.2.2.1, r1.1.2.2.2.2.2.2.1, r1.1.2.2.2.2.2.2.2.1, r1.1.2.2.2.2.2.2.2.2.1, r1.1.2.2.2.2.2.2.2.2.2.1, r1.1.2.2.2.2.2.2.2.2.2.2.1, r1.1.2.2.2.2.2.2.2.2.2.2.2.1, r1.1.2.2.2.2.2.2.2.2.2.2.2.2.1, r1.1.2.2.2.2.2.2.2.2.2.2.2.2.2.1, r1.1.2.2.2.2.2.2.2.2.2.2.2.2.2.2.1, r1.1.2.2.2.2.2.2.2.2.2.2.2.2.2.2.2.1, r1.1.2.2.2.2.2.2.2.2.2.2.2.2.2.2.2.2.1, r1.1.2.2.2.2.2.2.2.2.2.2.2.2.2.2.2.2.2.1, r1.1.2.2.2.2.2.2.2.2.2.2.2.2.2.2.2.2.2.2.1, r1.1.2.2.2.2.2.2.2.2.2.2.2.2.2.2.2.2.2.2.2.1, r1.1.2.2.2.2.2.2.2.2.2.2.2.2.2.2.2.2.2.2.2.2.1, r1.1.2.2.2.2.2.2.2.2.2.2.2.2.2.2.2.2.2.2.2.2.2.1), (r0.1.1, r0.1.2.1, r0.1.2.2.1, r0.1.2.2.2.1, r0.1.2.2.2.2.1, r0.1.2.2.2.2.2.1, r0.1.2.2.2.2.2.2.1, r0.1.2.2.2.2.2.2.2.1, r0.1.2.2.2.2.2.2.2.2.1, r0.1.2.2.2.2.2.2.2.2.2.1, r0.1.2.2.2.2.2.2.2.2.2.2.1, r0.1.2.2.2.2.2.2.2.2.2.2.2.1, r0.1.2.2.2.2.2.2.2.2.2.2.2.2.1, r0.1.2.2.2.2.2.2.2.2.2.2.2.2.2.1, r0.1.2.2.2.2.2.2.2.2.2.2.2.2.2.2.1, r0.1.2.2.2.2.2.2.2.2.2.2.2.2.2.2.2.1, r0.1.2.2.2.2.2.2.2.2.2.2.2.2.2.2.2.2.1, r0.1.2.2.2.2.2.2.2.2.2.2.2.2.2.2.2.2.2.1, r0.1.2.2.2.2.2.2.2.2.2.2.2.2.2.2.2.2.2.2.1, r0.1.2.2.2.2.2.2.2.2.2.2.2.2.2.2.2.2.2.2.2.1, r0.1.2.2.2.2.2.2.2.2.2.2.2.2.2.2.2.2.2.2.2.2.1, r0.1.2.2.2.2.2.2.2.2.2.2.2.2.2.2.2.2.2.2.2.2.2.1))) fun r2 =>
   bif !r2.1 then
    some true
   else some (!(r1.1.2.2.2.2.2.2.2.2.2.2.2.2.2.2.2.2.2.2.2.2.2.2 == r0.1.2.2.2.2.2.2.2.2.2.2.2.2.2.2.2.2.2.2.2.2.2.2)) : Option (Bool)) fun x3 =>
  bif x3 then
   some (false, ())
  else Option.bind (g_lmarkWorld ((r1.1.1, r1.1.2.1, r1.1.2.2.1, r1.1.2.2.2.1, r1.1.2.2.2.2.1, r1.1.2.2.2.2.2.1, r1.1.2.2.2.2.2.2.1, r1.1.2.2.2.2.2.2.2.1, r1.1.2.2.2.2.2.2.2.2.1, r1.1.2.2.2.2.2.2.2.2.2.1, r1.1.2.2.2.2.2.2.2.2.2.2.1, r1.1.2.2.2.2.2.2.2.2.2.2.2.1, r1.1.2.2.2.2.2.2.2.2.2.2.2.2.1, r1.1.2.2.2.2.2.2.2.2.2.2.2.2.2.1, r1.1.2.2.2.2.2.2.2.2.2.2.2.2.2.2.1, r1.1.2.2.2.2.2.2.2.2.2.2.2.2.2.2.2.1, r1.1.2.2.2.2.2.2.2.2.2.2.2.2.2.2.2.2.1, r1.1.2.2.2.2.2.2.2.2.2.2.2.2.2.2.2.2.2.1, r1.1.2.2.2.2.2.2.2.2.2.2.2.2.2.2.2.2.2.2.1, r1.1.2.2.2.2.2.2.2.2.2.2.2.2.2.2.2.2.2.2.2.1, r1.1.2.2.2.2.2.2.2.2.2.2.2.2.2.2.2.2.2.2.2.2.1, r1.1.2.2.2.2.2.2.2.2.2.2.2.2.2.2.2.2.2.2.2.2.2.1), (1 : Int))) fun r4 =>
  Option.bind (g_lheldWorld (r4.2, (1 : Int))) fun r5 =>
  bif decide (r5.1 < (0 : Int)) then
   some (false, ())
  else bif !decide (r5.1 = r4.1) then
   some (false, ())
  else Option.bind (g_iWorldNew (a0, a1)) fun r6 =>
  Option.bind (Option.bind (g_leqWorld ((r6.1.1, r6.1.2.1, r6.1.2.2.1, r6.1.2.2.2.1, r6.1.2.2.2.2.1, r6.1.2.2.2.2.2.1, r6.1.2.2.2.2.2.2.1, r6.1.2.2.2.2.2.2.2.1, r6.1.2.2.2.2.2.2.2.2.1, r6.1.2.2.2.2.2.2.2.2.2.1, r6.1.2.2.2.2.2.2.2.2.2.2.1, r6.1.2.2.2.2.2.2.2.2.2.2.2.1, r6.1.2.2.2.2.2.2.2.2.2.2.2.2.1, r6.1.2.2.2.2.2.2.2.2.2.2.2.2.2.1, r6.1.2.2.2.2.2.2.2.2.2.2.2.2.2.2.1, r6.1.2.2.2.2.2.2.2.2.2.2.2.2.2.2.2.1, r6.1.2.2.2.2.2.2.2.2.2.2.2.2.2.2.2.2.1, r6.1.2.2.2.2.2.2.2.2.2.2.2.2.2.2.2.2.2.1, r6.1.2.2.2.2.2.2.2.2.2.2.2.2.2.2.2.2.2.2.1, r6.1.2.2.2.2.2.2.2.2.2.2.2.2.2.2.2.2.2.2.2.1, r6.1.2.2.2.2.2.2.2.2.2.2.2.2.2.2.2.2.2.2.2.2.1, r6.1.2.2.2.2.2.2.2.2.2.2.2.2.2.2.2.2.2.2.2.2.2.1), (r0.1.1, r0.1.2.1, r0.1.2.2.1, r0.1.2.2.2.1, r0.1.2.2.2.2.1, r0.1.2.2.2.2.2.1, r0.1.2.2.2.2.2.2.1, r0.1.2.2.2.2.2.2.2.1, r0.1.2.2.2.2.2.2.2.2.1, r0.1.2.2.2.2.2.2.2.2.2.1, r0.1.2.2.2.2.2.2.2.2.2.2.1, r0.1.2.2.2.2.2.2.2.2.2.2.2.1, r0.1.2.2.2.2.2.2.2.2.2.2.2.2.1, r0.1.2.2.2.2.2.2.2.2.2.2.2.2.2.1, r0.1.2.2.2.2.2.2.2.2.2.2.2.2.2.2.1, r0.1.2.2.2.2.2.2.2.2.2.2.2.2.2.2.2.1, r0.1.2.2.2.2.2.2.2.2.2.2.2.2.2.2.2.2.1, r0.1.2.2.2.2.2.2.2.2.2.2.2.2.2.2.2.2.2.1, r0.1.2.2.2.2.2.2.2.2.2.2.2.2.2.2.2.2.2.2.1, r0.1.2.2.2.2.2.2.2.2.2.2.2.2.2.2.2.2.2.2.2.1, r0.1.2.2.2.2.2.2.2.2.2.2.2.2.2.2.2.2.2.2.2.2.1, r0.1.2.2.2.2.2.2.2.2.2.2.2.2.2.2.2.2.2.2.2.2.2.1))) fun r7 =>
   bif !r7.1 then
    some true
   else some (!(r6.1.2.2.2.2.2.2.2.2.2.2.2.2.2.2.2.2.2.2.2.2.2.2 == r0.1.2.2.2.2.2.2.2.2.2.2.2.2.2.2.2.2.2.2.2.2.2.2)) : Option (Bool)) fun x8 =>
  bif x8 then
   some (false, ())
  else Option.bind (g_lheldWorld (r4.2, (1 : Int))) fun r9 =>
  bif decide (r9.1 < (0 : Int)) then
   some (false, ())
  else bif !decide (r9.1 = r4.1) then
   some (false, ())
  else some (true, ()) := by kernel_rfl
end Go.Fw
