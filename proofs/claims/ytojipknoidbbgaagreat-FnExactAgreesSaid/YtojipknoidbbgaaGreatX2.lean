/- The given functions, as what they compute; each is shown to be what the code does. No conditions. -/
import Derived.Test.YtojipknoidbbgaaGreatX1
set_option linter.unusedVariables false
set_option linter.unusedSimpArgs false
namespace Go.Fw
def c_leqWorld : TC :=
 (.seq (.rg [o1 2 (.a (.t 0)),
   o1 3 (.a (.t 1)),
   o1 4 (.lit [.b] [.bool false])])
 (.seq (.seq (.rg [o1 5 (.idx .nil),
   o1 6 (.load 2 [] 0 (.t 5) 1 false),
   o1 7 (.idx .nil),
   o1 8 (.load 3 [] 0 (.t 7) 1 false),
   o1 9 (.data (.bin .neq) [.t 6, .t 8])])
 (.cond (.t 9)
  (.seq (.rg [o1 4 (.lit [.b] [.bool false])])
  .ret)
  .skip))
 (.seq (.seq (.rg [o1 10 (.idx .nil),
   o1 11 (.load 2 [] 1 (.t 10) 15 false),
   o1 12 (.idx .nil),
   o1 13 (.load 3 [] 1 (.t 12) 15 false),
   o3 14 17 [.t 11, .t 13],
   o1 15 (.data .not [.t 14])])
 (.cond (.t 15)
  (.seq (.rg [o1 4 (.lit [.b] [.bool false])])
  .ret)
  .skip))
 (.seq (.seq (.rg [o1 16 (.idx .nil),
   o1 17 (.load 2 [] 16 (.t 16) 1 false),
   o1 18 (.idx .nil),
   o1 19 (.load 3 [] 16 (.t 18) 1 false),
   o3 20 76 [.t 17, .t 19],
   o1 21 (.data .not [.t 20])])
 (.cond (.t 21)
  (.seq (.rg [o1 4 (.lit [.b] [.bool false])])
  .ret)
  .skip))
 (.seq (.seq (.rg [o1 22 (.idx .nil),
   o1 23 (.load 2 [] 17 (.t 22) 1 false),
   o1 24 (.idx .nil),
   o1 25 (.load 3 [] 17 (.t 24) 1 false),
   o3 26 77 [.t 23, .t 25],
   o1 27 (.data .not [.t 26])])
 (.cond (.t 27)
  (.seq (.rg [o1 4 (.lit [.b] [.bool false])])
  .ret)
  .skip))
 (.seq (.seq (.rg [o1 28 (.idx .nil),
   o1 29 (.load 2 [] 18 (.t 28) 1 false),
   o1 30 (.idx .nil),
   o1 31 (.load 3 [] 18 (.t 30) 1 false),
   o3 32 78 [.t 29, .t 31],
   o1 33 (.data .not [.t 32])])
 (.cond (.t 33)
  (.seq (.rg [o1 4 (.lit [.b] [.bool false])])
  .ret)
  .skip))
 (.seq (.seq (.rg [o1 34 (.idx .nil),
   o1 35 (.load 2 [] 19 (.t 34) 1 false),
   o1 36 (.idx .nil),
   o1 37 (.load 3 [] 19 (.t 36) 1 false),
   o3 38 79 [.t 35, .t 37],
   o1 39 (.data .not [.t 38])])
 (.cond (.t 39)
  (.seq (.rg [o1 4 (.lit [.b] [.bool false])])
  .ret)
  .skip))
 (.seq (.seq (.rg [o1 40 (.idx .nil),
   o1 41 (.load 2 [] 20 (.t 40) 1 false),
   o1 42 (.idx .nil),
   o1 43 (.load 3 [] 20 (.t 42) 1 false),
   o3 44 80 [.t 41, .t 43],
   o1 45 (.data .not [.t 44])])
 (.cond (.t 45)
  (.seq (.rg [o1 4 (.lit [.b] [.bool false])])
  .ret)
  .skip))
 (.seq (.seq (.rg [o1 46 (.idx .nil),
   o1 47 (.load 2 [] 21 (.t 46) 1 false),
   o1 48 (.idx .nil),
   o1 49 (.load 3 [] 21 (.t 48) 1 false),
   o3 50 11 [.t 47, .t 49],
   o1 51 (.data .not [.t 50])])
 (.cond (.t 51)
  (.seq (.rg [o1 4 (.lit [.b] [.bool false])])
  .ret)
  .skip))
 (.seq (.rg [o1 4 (.lit [.b] [.bool true])])
 .ret))))))))))
def s_leqWorld : Sig := ⟨[.rd true [.d, .d, .sl (.own none) [.d], .sl (.own none) [.d, .d], .sl (.own none) [.sl (.own none) [.d]], .sl (.own none) [.d], .d, .d, .d, .d, .d, .d, .d, .sl (.own none) [.d, .d], .d, .sl (.own none) [.d, .d, .d, .d, .d, .d], .sl (.own none) [.d, .d, .sl (.own none) [.d, .d, .d, .d], .d, .d, .sl (.own none) [.d, .d], .sl (.own none) [.d]], .sl (.own none) [.sl (.own none) [.d, .d, .d]], .sl (.own none) [.d], .sl (.own none) [.d, .d, .d], .sl (.own none) [.d, .d, .d, .d, .d, .d, .d], .sl (.own none) [.d, .d, .d, .d, .d, .d, .d, .d, .sl (.own none) [.d, .d], .sl (.own none) [.d], .d, .d, .sl (.own none) [.d, .d], .d]], .rd true [.d, .d, .sl (.own none) [.d], .sl (.own none) [.d, .d], .sl (.own none) [.sl (.own none) [.d]], .sl (.own none) [.d], .d, .d, .d, .d, .d, .d, .d, .sl (.own none) [.d, .d], .d, .sl (.own none) [.d, .d, .d, .d, .d, .d], .sl (.own none) [.d, .d, .sl (.own none) [.d, .d, .d, .d], .d, .d, .sl (.own none) [.d, .d], .sl (.own none) [.d]], .sl (.own none) [.sl (.own none) [.d, .d, .d]], .sl (.own none) [.d], .sl (.own none) [.d, .d, .d], .sl (.own none) [.d, .d, .d, .d, .d, .d, .d], .sl (.own none) [.d, .d, .d, .d, .d, .d, .d, .d, .sl (.own none) [.d, .d], .sl (.own none) [.d], .d, .d, .sl (.own none) [.d, .d], .d]]], (.one false [.d])⟩
noncomputable def E_leqWorld : TEnv := envOf [(17, p_leqHead), (76, p_leqShardS), (77, p_leqDiskS), (78, p_leqBoolS), (79, p_leqPacketS), (80, p_leqCallS), (11, p_leqRecS)]
noncomputable def f_leqWorld (n : Nat) : (Int × Int × List (Int) × List (Int × Int) × List (List (Int)) × List (Int) × Int × Int × Int × Int × Int × Int × Int × List (Int × Int) × Int × List (Int × Int × Int × Int × Int × Int) × List (Int × Int × List (Int × Int × Int × Bool) × Int × Bool × List (Int × Int) × List (Int)) × List (List (ByteArray × ByteArray × Int)) × List (Bool) × List (Int × Int × ByteArray) × List (Int × Int × Int × Int × Int × Int × Int) × List (Int × Int × Int × Int × Int × Int × Int × Bool × List (Int × Int) × List (Int) × Int × Int × List (Int × Int) × Int)) × (Int × Int × List (Int) × List (Int × Int) × List (List (Int)) × List (Int) × Int × Int × Int × Int × Int × Int × Int × List (Int × Int) × Int × List (Int × Int × Int × Int × Int × Int) × List (Int × Int × List (Int × Int × Int × Bool) × Int × Bool × List (Int × Int) × List (Int)) × List (List (ByteArray × ByteArray × Int)) × List (Bool) × List (Int × Int × ByteArray) × List (Int × Int × Int × Int × Int × Int × Int) × List (Int × Int × Int × Int × Int × Int × Int × Bool × List (Int × Int) × List (Int) × Int × Int × List (Int × Int) × Int)) → Option ((Bool) × Unit) := runFn n E_leqWorld c_leqWorld [[.i .i64, .i .i64, .sl [.i .i64], .sl [.i .i64, .i .i64], .sl [.sl [.i .i64]], .sl [.i .i64], .i .i64, .i .i64, .i .i64, .i .i64, .i .i64, .i .i64, .i .i64, .sl [.i .i64, .i .i64], .i .i64, .sl [.i .i64, .i .i64, .i .i64, .i .i64, .i .i64, .i .i64], .sl [.i .i64, .i .i64, .sl [.i .i64, .i .i64, .i .i64, .b], .i .i64, .b, .sl [.i .i64, .i .i64], .sl [.i .i64]], .sl [.sl [.s, .s, .i .i64]], .sl [.b], .sl [.i .i64, .i .i64, .s], .sl [.i .i64, .i .i64, .i .i64, .i .i64, .i .i64, .i .i64, .i .i64], .sl [.i .i64, .i .i64, .i .i64, .i .i64, .i .i64, .i .i64, .i .i64, .b, .sl [.i .i64, .i .i64], .sl [.i .i64], .i .i64, .i .i64, .sl [.i .i64, .i .i64], .i .i64]], [.i .i64, .i .i64, .sl [.i .i64], .sl [.i .i64, .i .i64], .sl [.sl [.i .i64]], .sl [.i .i64], .i .i64, .i .i64, .i .i64, .i .i64, .i .i64, .i .i64, .i .i64, .sl [.i .i64, .i .i64], .i .i64, .sl [.i .i64, .i .i64, .i .i64, .i .i64, .i .i64, .i .i64], .sl [.i .i64, .i .i64, .sl [.i .i64, .i .i64, .i .i64, .b], .i .i64, .b, .sl [.i .i64, .i .i64], .sl [.i .i64]], .sl [.sl [.s, .s, .i .i64]], .sl [.b], .sl [.i .i64, .i .i64, .s], .sl [.i .i64, .i .i64, .i .i64, .i .i64, .i .i64, .i .i64, .i .i64], .sl [.i .i64, .i .i64, .i .i64, .i .i64, .i .i64, .i .i64, .i .i64, .b, .sl [.i .i64, .i .i64], .sl [.i .i64], .i .i64, .i .i64, .sl [.i .i64, .i .i64], .i .i64]]] [.b] [] [4] .no
noncomputable def g_leqWorld := f_leqWorld BIG
noncomputable def p_leqWorld : TSp := ⟨s_leqWorld, [[.i .i64, .i .i64, .sl [.i .i64], .sl [.i .i64, .i .i64], .sl [.sl [.i .i64]], .sl [.i .i64], .i .i64, .i .i64, .i .i64, .i .i64, .i .i64, .i .i64, .i .i64, .sl [.i .i64, .i .i64], .i .i64, .sl [.i .i64, .i .i64, .i .i64, .i .i64, .i .i64, .i .i64], .sl [.i .i64, .i .i64, .sl [.i .i64, .i .i64, .i .i64, .b], .i .i64, .b, .sl [.i .i64, .i .i64], .sl [.i .i64]], .sl [.sl [.s, .s, .i .i64]], .sl [.b], .sl [.i .i64, .i .i64, .s], .sl [.i .i64, .i .i64, .i .i64, .i .i64, .i .i64, .i .i64, .i .i64], .sl [.i .i64, .i .i64, .i .i64, .i .i64, .i .i64, .i .i64, .i .i64, .b, .sl [.i .i64, .i .i64], .sl [.i .i64], .i .i64, .i .i64, .sl [.i .i64, .i .i64], .i .i64]], [.i .i64, .i .i64, .sl [.i .i64], .sl [.i .i64, .i .i64], .sl [.sl [.i .i64]], .sl [.i .i64], .i .i64, .i .i64, .i .i64, .i .i64, .i .i64, .i .i64, .i .i64, .sl [.i .i64, .i .i64], .i .i64, .sl [.i .i64, .i .i64, .i .i64, .i .i64, .i .i64, .i .i64], .sl [.i .i64, .i .i64, .sl [.i .i64, .i .i64, .i .i64, .b], .i .i64, .b, .sl [.i .i64, .i .i64], .sl [.i .i64]], .sl [.sl [.s, .s, .i .i64]], .sl [.b], .sl [.i .i64, .i .i64, .s], .sl [.i .i64, .i .i64, .i .i64, .i .i64, .i .i64, .i .i64, .i .i64], .sl [.i .i64, .i .i64, .i .i64, .i .i64, .i .i64, .i .i64, .i .i64, .b, .sl [.i .i64, .i .i64], .sl [.i .i64], .i .i64, .i .i64, .sl [.i .i64, .i .i64], .i .i64]]], [.b], [], Ou.j .no, g_leqWorld⟩
theorem k_leqWorld : chkW PG E_leqWorld 24 s_leqWorld (c_leqWorld.ht 52) .no = some (c_leqWorld.wc E_leqWorld, [4]) := by kernel_rfl
theorem ok_leqWorld : p_leqWorld.Ok PG 24 := mkOk (env_cons ok_leqHead (env_cons ok_leqShardS (env_cons ok_leqDiskS (env_cons ok_leqBoolS (env_cons ok_leqPacketS (env_cons ok_leqCallS (env_cons ok_leqRecS (env_nil PG)))))))) k_leqWorld (by kernel_rfl)
theorem e_leqWorld (n : Nat) (a0 : Int × Int × List (Int) × List (Int × Int) × List ((List (Int))) × List (Int) × Int × Int × Int × Int × Int × Int × Int × List (Int × Int) × Int × List (Int × Int × Int × Int × Int × Int) × List (Int × Int × (List (Int × Int × Int × Bool)) × Int × Bool × (List (Int × Int)) × (List (Int))) × List ((List (ByteArray × ByteArray × Int))) × List (Bool) × List (Int × Int × ByteArray) × List (Int × Int × Int × Int × Int × Int × Int) × List (Int × Int × Int × Int × Int × Int × Int × Bool × (List (Int × Int)) × (List (Int)) × Int × Int × (List (Int × Int)) × Int)) (a1 : Int × Int × List (Int) × List (Int × Int) × List ((List (Int))) × List (Int) × Int × Int × Int × Int × Int × Int × Int × List (Int × Int) × Int × List (Int × Int × Int × Int × Int × Int) × List (Int × Int × (List (Int × Int × Int × Bool)) × Int × Bool × (List (Int × Int)) × (List (Int))) × List ((List (ByteArray × ByteArray × Int))) × List (Bool) × List (Int × Int × ByteArray) × List (Int × Int × Int × Int × Int × Int × Int) × List (Int × Int × Int × Int × Int × Int × Int × Bool × (List (Int × Int)) × (List (Int)) × Int × Int × (List (Int × Int)) × Int)) : f_leqWorld n (a0, a1) =
  bif !decide (a0.1 = a1.1) then
   some (false, ())
  else Option.bind (g_leqHead ((a0.2.1, a0.2.2.1, a0.2.2.2.1, a0.2.2.2.2.1, a0.2.2.2.2.2.1, a0.2.2.2.2.2.2.1, a0.2.2.2.2.2.2.2.1, a0.2.2.2.2.2.2.2.2.1, a0.2.2.2.2.2.2.2.2.2.1, a0.2.2.2.2.2.2.2.2.2.2.1, a0.2.2.2.2.2.2.2.2.2.2.2.1, a0.2.2.2.2.2.2.2.2.2.2.2.2.1, a0.2.2.2.2.2.2.2.2.2.2.2.2.2.1, a0.2.2.2.2.2.2.2.2.2.2.2.2.2.2.1, a0.2.2.2.2.2.2.2.2.2.2.2.2.2.2.2.1), (a1.2.1, a1.2.2.1, a1.2.2.2.1, a1.2.2.2.2.1, a1.2.2.2.2.2.1, a1.2.2.2.2.2.2.1, a1.2.2.2.2.2.2.2.1, a1.2.2.2.2.2.2.2.2.1, a1.2.2.2.2.2.2.2.2.2.1, a1.2.2.2.2.2.2.2.2.2.2.1, a1.2.2.2.2.2.2.2.2.2.2.2.1, a1.2.2.2.2.2.2.2.2.2.2.2.2.1, a1.2.2.2.2.2.2.2.2.2.2.2.2.2.1, a1.2.2.2.2.2.2.2.2.2.2.2.2.2.2.1, a1.2.2.2.2.2.2.2.2.2.2.2.2.2.2.2.1))) fun r0 =>
  bif !r0.1 then
   some (false, ())
  else Option.bind (g_leqShardS (a0.2.2.2.2.2.2.2.2.2.2.2.2.2.2.2.2.1, a1.2.2.2.2.2.2.2.2.2.2.2.2.2.2.2.2.1)) fun r1 =>
  bif !r1.1 then
   some (false, ())
  else Option.bind (g_leqDiskS (a0.2.2.2.2.2.2.2.2.2.2.2.2.2.2.2.2.2.1, a1.2.2.2.2.2.2.2.2.2.2.2.2.2.2.2.2.2.1)) fun r2 =>
  bif !r2.1 then
   some (false, ())
  else Option.bind (g_leqBoolS (a0.2.2.2.2.2.2.2.2.2.2.2.2.2.2.2.2.2.2.1, a1.2.2.2.2.2.2.2.2.2.2.2.2.2.2.2.2.2.2.1)) fun r3 =>
  bif !r3.1 then
   some (false, ())
  else Option.bind (g_leqPacketS (a0.2.2.2.2.2.2.2.2.2.2.2.2.2.2.2.2.2.2.2.1, a1.2.2.2.2.2.2.2.2.2.2.2.2.2.2.2.2.2.2.2.1)) fun r4 =>
  bif !r4.1 then
   some (false, ())
  else Option.bind (g_leqCallS (a0.2.2.2.2.2.2.2.2.2.2.2.2.2.2.2.2.2.2.2.2.1, a1.2.2.2.2.2.2.2.2.2.2.2.2.2.2.2.2.2.2.2.2.1)) fun r5 =>
  bif !r5.1 then
   some (false, ())
  else Option.bind (g_leqRecS (a0.2.2.2.2.2.2.2.2.2.2.2.2.2.2.2.2.2.2.2.2.2, a1.2.2.2.2.2.2.2.2.2.2.2.2.2.2.2.2.2.2.2.2.2)) fun r6 =>
  bif !r6.1 then
   some (false, ())
  else some (true, ()) := by kernel_rfl
def c_lFnExactAgrees : TC :=
 (.seq (.rg [o1 1 (.a (.t 0)),
   o1 2 (.lit [.b] [.bool false])])
 (.seq (.rg [o1 3 (.lit [.i .i64] [.int .i64 (1048576)])])
 (.seq (.rg [o1 7 (.load 1 [] 0 .nil 22 false),
   o1 8 (.copy 3),
   o3 9 20 [.t 7, .t 8],
   o1 3 (.copy 9)])
 (.seq (.seq (.rg [o1 10 (.copy 3),
   o1 11 (.data (.bin .lss) [.t 10, .c (.int .i64 (0))])])
 (.cond (.t 11)
  (.seq (.rg [o1 2 (.lit [.b] [.bool true])])
  .ret)
  .skip))
 (.seq (.rg [o1 12 (.load 1 [] 0 .nil 22 false),
   o3 13 22 [.t 12],
   o3 14 21 [.t 13],
   o1 4 (.copy 14)])
 (.seq (.rg [o1 15 (.load 1 [] 0 .nil 22 false),
   o3 16 22 [.t 15],
   ⟨false, [], [], .det 2 (.a (.c [.i .i64, .i .i64, .sl [.i .i64], .sl [.i .i64, .i .i64], .sl [.sl [.i .i64]], .sl [.i .i64], .i .i64, .i .i64, .i .i64, .i .i64, .i .i64, .i .i64, .i .i64, .sl [.i .i64, .i .i64], .i .i64, .sl [.i .i64, .i .i64, .i .i64, .i .i64, .i .i64, .i .i64], .sl [.i .i64, .i .i64, .sl [.i .i64, .i .i64, .i .i64, .b], .i .i64, .b, .sl [.i .i64, .i .i64], .sl [.i .i64]], .sl [.sl [.s, .s, .i .i64]], .sl [.b], .sl [.i .i64, .i .i64, .s], .sl [.i .i64, .i .i64, .i .i64, .i .i64, .i .i64, .i .i64, .i .i64], .sl [.i .i64, .i .i64, .i .i64, .i .i64, .i .i64, .i .i64, .i .i64, .b, .sl [.i .i64, .i .i64], .sl [.i .i64], .i .i64, .i .i64, .sl [.i .i64, .i .i64], .i .i64]] [.int .i64 (0), .int .i64 (0), .slice none 0 0, .slice none 0 0, .slice none 0 0, .slice none 0 0, .int .i64 (0), .int .i64 (0), .int .i64 (0), .int .i64 (0), .int .i64 (0), .int .i64 (0), .int .i64 (0), .slice none 0 0, .int .i64 (0), .slice none 0 0, .slice none 0 0, .slice none 0 0, .slice none 0 0, .slice none 0 0, .slice none 0 0, .slice none 0 0])), [5, 1000000001], (some 5), none⟩,
   o4 2 [5, 16] (.store 5 [] 0 .nil (.t 16))])
 (.seq (.rg [o1 17 (.load 5 [] 0 .nil 22 true),
   o3 18 23 [.t 17],
   o1 6 (.copy 18)])
 (.seq (.seq (.rg [o1 19 (.copy 6),
   o1 20 (.copy 4),
   o1 21 (.data (.beq true) [.t 19, .t 20])])
 (.cond (.t 21)
  (.seq (.rg [o1 2 (.lit [.b] [.bool false])])
  .ret)
  .skip))
 (.seq (.seq (.rg [o1 22 (.load 5 [] 0 .nil 22 true),
   o1 23 (.load 1 [] 0 .nil 22 false),
   o3 24 22 [.t 23],
   o3 25 24 [.t 22, .t 24],
   o1 26 (.data .not [.t 25])])
 (.cond (.t 26)
  (.seq (.rg [o1 2 (.lit [.b] [.bool false])])
  .ret)
  .skip))
 (.seq (.rg [o1 2 (.lit [.b] [.bool true])])
 .ret))))))))))
def s_lFnExactAgrees : Sig := ⟨[.rd true [.d, .d, .sl (.own none) [.d], .sl (.own none) [.d, .d], .sl (.own none) [.sl (.own none) [.d]], .sl (.own none) [.d], .d, .d, .d, .d, .d, .d, .d, .sl (.own none) [.d, .d], .d, .sl (.own none) [.d, .d, .d, .d, .d, .d], .sl (.own none) [.d, .d, .sl (.own none) [.d, .d, .d, .d], .d, .d, .sl (.own none) [.d, .d], .sl (.own none) [.d]], .sl (.own none) [.sl (.own none) [.d, .d, .d]], .sl (.own none) [.d], .sl (.own none) [.d, .d, .d], .sl (.own none) [.d, .d, .d, .d, .d, .d, .d], .sl (.own none) [.d, .d, .d, .d, .d, .d, .d, .d, .sl (.own none) [.d, .d], .sl (.own none) [.d], .d, .d, .sl (.own none) [.d, .d], .d]]], (.one false [.d])⟩
noncomputable def E_lFnExactAgrees : TEnv := envOf [(20, p_lszWorld), (22, p_ltoWorld), (21, p_sAgrees), (23, p_iAgrees), (24, p_leqWorld)]
noncomputable def f_lFnExactAgrees (n : Nat) : (Int × Int × List (Int) × List (Int × Int) × List (List (Int)) × List (Int) × Int × Int × Int × Int × Int × Int × Int × List (Int × Int) × Int × List (Int × Int × Int × Int × Int × Int) × List (Int × Int × List (Int × Int × Int × Bool) × Int × Bool × List (Int × Int) × List (Int)) × List (List (ByteArray × ByteArray × Int)) × List (Bool) × List (Int × Int × ByteArray) × List (Int × Int × Int × Int × Int × Int × Int) × List (Int × Int × Int × Int × Int × Int × Int × Bool × List (Int × Int) × List (Int) × Int × Int × List (Int × Int) × Int)) → Option ((Bool) × Unit) := runFn n E_lFnExactAgrees c_lFnExactAgrees [[.i .i64, .i .i64, .sl [.i .i64], .sl [.i .i64, .i .i64], .sl [.sl [.i .i64]], .sl [.i .i64], .i .i64, .i .i64, .i .i64, .i .i64, .i .i64, .i .i64, .i .i64, .sl [.i .i64, .i .i64], .i .i64, .sl [.i .i64, .i .i64, .i .i64, .i .i64, .i .i64, .i .i64], .sl [.i .i64, .i .i64, .sl [.i .i64, .i .i64, .i .i64, .b], .i .i64, .b, .sl [.i .i64, .i .i64], .sl [.i .i64]], .sl [.sl [.s, .s, .i .i64]], .sl [.b], .sl [.i .i64, .i .i64, .s], .sl [.i .i64, .i .i64, .i .i64, .i .i64, .i .i64, .i .i64, .i .i64], .sl [.i .i64, .i .i64, .i .i64, .i .i64, .i .i64, .i .i64, .i .i64, .b, .sl [.i .i64, .i .i64], .sl [.i .i64], .i .i64, .i .i64, .sl [.i .i64, .i .i64], .i .i64]]] [.b] [] [2] .no
noncomputable def g_lFnExactAgrees := f_lFnExactAgrees BIG
noncomputable def p_lFnExactAgrees : TSp := ⟨s_lFnExactAgrees, [[.i .i64, .i .i64, .sl [.i .i64], .sl [.i .i64, .i .i64], .sl [.sl [.i .i64]], .sl [.i .i64], .i .i64, .i .i64, .i .i64, .i .i64, .i .i64, .i .i64, .i .i64, .sl [.i .i64, .i .i64], .i .i64, .sl [.i .i64, .i .i64, .i .i64, .i .i64, .i .i64, .i .i64], .sl [.i .i64, .i .i64, .sl [.i .i64, .i .i64, .i .i64, .b], .i .i64, .b, .sl [.i .i64, .i .i64], .sl [.i .i64]], .sl [.sl [.s, .s, .i .i64]], .sl [.b], .sl [.i .i64, .i .i64, .s], .sl [.i .i64, .i .i64, .i .i64, .i .i64, .i .i64, .i .i64, .i .i64], .sl [.i .i64, .i .i64, .i .i64, .i .i64, .i .i64, .i .i64, .i .i64, .b, .sl [.i .i64, .i .i64], .sl [.i .i64], .i .i64, .i .i64, .sl [.i .i64, .i .i64], .i .i64]]], [.b], [], Ou.j .no, g_lFnExactAgrees⟩
theorem k_lFnExactAgrees : chkW PG E_lFnExactAgrees 5 s_lFnExactAgrees (c_lFnExactAgrees.ht 27) .no = some (c_lFnExactAgrees.wc E_lFnExactAgrees, [2]) := by kernel_rfl
theorem ok_lFnExactAgrees : p_lFnExactAgrees.Ok PG 5 := mkOk (env_cons ok_lszWorld (env_cons ok_ltoWorld (env_cons ok_sAgrees (env_cons ok_iAgrees (env_cons ok_leqWorld (env_nil PG)))))) k_lFnExactAgrees (by kernel_rfl)
theorem e_lFnExactAgrees (n : Nat) (a0 : Int × Int × List (Int) × List (Int × Int) × List ((List (Int))) × List (Int) × Int × Int × Int × Int × Int × Int × Int × List (Int × Int) × Int × List (Int × Int × Int × Int × Int × Int) × List (Int × Int × (List (Int × Int × Int × Bool)) × Int × Bool × (List (Int × Int)) × (List (Int))) × List ((List (ByteArray × ByteArray × Int))) × List (Bool) × List (Int × Int × ByteArray) × List (Int × Int × Int × Int × Int × Int × Int) × List (Int × Int × Int × Int × Int × Int × Int × Bool × (List (Int × Int)) × (List (Int)) × Int × Int × (List (Int × Int)) × Int)) : f_lFnExactAgrees n a0 =
  Option.bind (g_lszWorld (a0, (1048576 : Int))) fun r0 =>
  bif decide (r0.1 < (0 : Int)) then
   some (true, ())
  else Option.bind (g_ltoWorld a0) fun r1 =>
  Option.bind (g_sAgrees r1.1) fun r2 =>
  Option.bind (g_ltoWorld a0) fun r3 =>
  Option.bind (g_iAgrees r3.1) fun r4 =>
  bif !(r4.1 == r2.1) then
   some (false, ())
  else Option.bind (g_ltoWorld a0) fun r5 =>
  Option.bind (g_leqWorld (r3.1, r5.1)) fun r6 =>
  bif !r6.1 then
   some (false, ())
  else some (true, ()) := by kernel_rfl
end Go.Fw
