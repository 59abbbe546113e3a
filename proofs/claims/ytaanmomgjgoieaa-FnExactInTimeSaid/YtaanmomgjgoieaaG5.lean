/- What the given functions compute, and what that comes to. No conditions. -/
import Derived.Test.YtaanmomgjgoieaaG4
import Derived.Test.YtaanmomgjgoieaaProg
import Derived.IntWalk
set_option linter.unusedVariables false
set_option linter.unusedSimpArgs false
/- The given functions, as what they compute; each is shown to be what the code does. -/
namespace Go.Fw
noncomputable abbrev PG := Go.Proofs.Try.prog
/- laws.szIntS -/
def c81 : TC :=
 (.seq (.rg [o1 4 (.lit [.i .i64] [.int .i64 (0)])])
 (.seq (.rg [o1 5 (.copy 1),
   o1 6 (.copy 0),
   o1 7 (.len 6),
   o1 8 (.data (.bin .sub) [.t 5, .t 7]),
   o1 1 (.copy 8)])
 (.seq (.seq (.rg [o1 9 (.copy 1),
   o1 10 (.data (.bin .lss) [.t 9, .c (.int .i64 (0))])])
 (.cond (.t 10)
  (.seq (.rg [o1 4 (.lit [.i .i64] [.int .i64 (-1)])])
  .ret)
  .skip))
 (.seq (.rg [o1 11 (.copy 1),
   o1 4 (.copy 11)])
 .ret))))
def s81 : Sig := ⟨[.rd false [.sl (.own none) [.d]], .rd false [.d]], (.one false [.d])⟩
noncomputable def E81 : TEnv := envOf []
noncomputable def f81 (n : Nat) : List (Int) × Int → Option ((Int) × (Unit)) := runFn n E81 c81 [[.sl [.i .i64]], [.i .i64]] [.i .i64] [] [4] .no
noncomputable def g81 : List (Int) × Int → Option ((Int) × (Unit)) := f81 BIG
noncomputable def p81 : TSp := ⟨s81, [[.sl [.i .i64]], [.i .i64]], [.i .i64], [], Ou.j .no, g81⟩
theorem k81 : chkW PG E81 81 s81 (c81.ht 12) .no = some (c81.wc E81, [4]) := by kernel_rfl
theorem ok81 : p81.Ok PG 81 := mkOk (env_nil PG) k81 (by kernel_rfl)
theorem e81 (n : Nat) (a0 : List (Int)) (a1 : Int) : f81 n (a0, a1) =
  bif decide ((IntKind.wrap .i64 (a1 - (a0.length : Int))) < (0 : Int)) then
   some ((-1 : Int), ())
  else some (IntKind.wrap .i64 (a1 - (a0.length : Int)), ()) := by kernel_rfl
/- laws.szEvent -/
def c15 : TC :=
 (.seq (.rg [o1 2 (.a (.t 0)),
   o1 4 (.lit [.i .i64] [.int .i64 (0)])])
 (.seq (.rg [o1 5 (.idx .nil),
   o1 6 (.load 2 [] 8 (.t 5) 1 false),
   o1 7 (.copy 1),
   ⟨false, [], [], .call 1 81 [.t 6, .t 7] .no, [8], (some 8), none⟩,
   o1 1 (.copy 8)])
 (.seq (.seq (.rg [o1 9 (.copy 1),
   o1 10 (.data (.bin .lss) [.t 9, .c (.int .i64 (0))])])
 (.cond (.t 10)
  (.seq (.rg [o1 4 (.lit [.i .i64] [.int .i64 (-1)])])
  .ret)
  .skip))
 (.seq (.rg [o1 11 (.copy 1),
   o1 4 (.copy 11)])
 .ret))))
def s15 : Sig := ⟨[.rd true [.d, .d, .d, .d, .d, .d, .d, .d, .sl (.own none) [.d]], .rd false [.d]], (.one false [.d])⟩
noncomputable def E15 : TEnv := envOf [(81, p81)]
noncomputable def f15 (n : Nat) : (Int × Int × Int × Int × Int × Int × Int × Bool × List (Int)) × Int → Option ((Int) × (Unit)) := runFn n E15 c15 [[.i .i64, .i .i64, .i .i64, .i .i64, .i .i64, .i .i64, .i .i64, .b, .sl [.i .i64]], [.i .i64]] [.i .i64] [] [4] .no
noncomputable def g15 : (Int × Int × Int × Int × Int × Int × Int × Bool × List (Int)) × Int → Option ((Int) × (Unit)) := f15 BIG
noncomputable def p15 : TSp := ⟨s15, [[.i .i64, .i .i64, .i .i64, .i .i64, .i .i64, .i .i64, .i .i64, .b, .sl [.i .i64]], [.i .i64]], [.i .i64], [], Ou.j .no, g15⟩
theorem k15 : chkW PG E15 15 s15 (c15.ht 12) .no = some (c15.wc E15, [4]) := by kernel_rfl
theorem ok15 : p15.Ok PG 15 := mkOk (env_cons ok81 (env_nil PG)) k15 (by kernel_rfl)
theorem e15 (n : Nat) (a0 : Int × Int × Int × Int × Int × Int × Int × Bool × List (Int)) (a1 : Int) : f15 n (a0, a1) =
  Option.bind (g81 (a0.2.2.2.2.2.2.2.2, a1)) fun r0 =>
  bif decide (r0.1 < (0 : Int)) then
   some ((-1 : Int), ())
  else some (r0.1, ()) := by kernel_rfl
/- laws.toAsk -/
def c83 : TC :=
 (.seq (.rg [o1 1 (.a (.t 0)),
   ⟨false, [], [], .det 2 (.a (.c [.i .i64, .i .i64, .i .i64, .i .i64] [.int .i64 (0), .int .i64 (0), .int .i64 (0), .int .i64 (0)])), [2, 1000000001], (some 2), none⟩])
 (.seq (.rg [⟨false, [], [], .det 2 (.a (.c [.i .i64, .i .i64, .i .i64, .i .i64] [.int .i64 (0), .int .i64 (0), .int .i64 (0), .int .i64 (0)])), [3, 1000000001], (some 3), none⟩])
 (.seq (.rg [o1 4 (.idx .nil),
   o1 5 (.load 1 [] 0 (.t 4) 1 false),
   o1 6 (.idx .nil),
   ⟨false, [], [], .det 1 (.store 3 [] 0 (.t 6) (.t 5)), [3], none, none⟩])
 (.seq (.rg [o1 7 (.idx .nil),
   o1 8 (.load 1 [] 1 (.t 7) 1 false),
   o1 9 (.idx .nil),
   ⟨false, [], [], .det 1 (.store 3 [] 1 (.t 9) (.t 8)), [3], none, none⟩])
 (.seq (.rg [o1 10 (.idx .nil),
   o1 11 (.load 1 [] 2 (.t 10) 1 false),
   o1 12 (.idx .nil),
   ⟨false, [], [], .det 1 (.store 3 [] 2 (.t 12) (.t 11)), [3], none, none⟩])
 (.seq (.rg [o1 13 (.idx .nil),
   o1 14 (.load 1 [] 3 (.t 13) 1 false),
   o1 15 (.idx .nil),
   ⟨false, [], [], .det 1 (.store 3 [] 3 (.t 15) (.t 14)), [3], none, none⟩])
 (.seq (.rg [o1 16 (.load 3 [] 0 .nil 4 false),
   ⟨false, [], [], .det 1 (.store 2 [] 0 .nil (.t 16)), [2], none, none⟩])
 .ret)))))))
def s83 : Sig := ⟨[.rd true [.d, .d, .d, .d]], (.one true [.d, .d, .d, .d])⟩
noncomputable def E83 : TEnv := envOf []
noncomputable def f83 (n : Nat) : (Int × Int × Int × Int) → Option ((Int × Int × Int × Int) × (Unit)) := runFn n E83 c83 [[.i .i64, .i .i64, .i .i64, .i .i64]] [.i .i64, .i .i64, .i .i64, .i .i64] [] [2] .no
noncomputable def g83 : (Int × Int × Int × Int) → Option ((Int × Int × Int × Int) × (Unit)) := f83 BIG
noncomputable def p83 : TSp := ⟨s83, [[.i .i64, .i .i64, .i .i64, .i .i64]], [.i .i64, .i .i64, .i .i64, .i .i64], [], Ou.j .no, g83⟩
theorem k83 : chkW PG E83 83 s83 (c83.ht 17) .no = some (c83.wc E83, [2]) := by kernel_rfl
theorem ok83 : p83.Ok PG 83 := mkOk (env_nil PG) k83 (by kernel_rfl)
theorem e83 (n : Nat) (a0 : Int × Int × Int × Int) : f83 n a0 =
  some ((a0.1, a0.2.1, a0.2.2.1, a0.2.2.2), ()) := by kernel_rfl
/- laws.toIntS -/
def c26 : TC :=
 (.seq (.rg [o1 2 (.lit [.sl [.i .i64]] [.slice none 0 0])])
 (.seq (.rg [o1 5 (.copy 0),
   o1 6 (.len 5),
   o1 7 (.make (.t 6) [.i .i64]),
   ⟨false, [], [], .det 2 (.copy 7), [3, 7], (some 3), none⟩])
 (.seq (.join [⟨3, [.sl [.i .i64]], false⟩] 2096920 none (.seq (.rg [o1 4 (.lit [.i .i64] [.int .i64 (0)])])
 (.block 0 (.loop [⟨3, [.sl [.i .i64]], false⟩, ⟨4, [.i .i64], false⟩] 2096920
  (.seq (.seq (.rg [o1 8 (.copy 4),
    o1 9 (.copy 0),
    o1 10 (.len 9),
    o1 11 (.data (.bin .lss) [.t 8, .t 10])])
  (.cond (.t 11)
   .skip
   (.exit 0)))
  (.seq (.block 1 (.rg [⟨true, [], [], .det 1 (.copy 3), [14], (some 14), none⟩,
    o1 15 (.copy 4),
    o1 16 (.copy 0),
    o1 17 (.copy 4),
    o1 18 (.index 16 (.t 17)),
    o1 19 (.load 16 [(0, 1)] 0 (.t 18) 1 false),
    o1 20 (.index 14 (.t 15)),
    ⟨false, [], [], .det 1 (.store 3 [(0, 1)] 0 (.t 20) (.t 19)), [3, 14], none, none⟩]))
  (.rg [o1 12 (.copy 4),
    o1 13 (.data (.bin .add) [.t 12, .c (.int .i64 (1))]),
    o1 4 (.copy 13)])))))))
 (.seq (.rg [⟨false, [], [], .det 2 (.copy 3), [21, 3], (some 21), none⟩,
   ⟨false, [], [], .det 2 (.copy 21), [2, 21], (some 2), none⟩])
 .ret))))
def s26 : Sig := ⟨[.rd false [.sl (.own none) [.d]]], (.one false [.sl (.own none) [.d]])⟩
noncomputable def E26 : TEnv := envOf []
noncomputable def f26 (n : Nat) : List (Int) → Option ((List (Int)) × (Unit)) := runFn n E26 c26 [[.sl [.i .i64]]] [.sl [.i .i64]] [] [2] .no
noncomputable def g26 : List (Int) → Option ((List (Int)) × (Unit)) := f26 BIG
noncomputable def p26 : TSp := ⟨s26, [[.sl [.i .i64]]], [.sl [.i .i64]], [], Ou.j .no, g26⟩
theorem k26 : chkW PG E26 26 s26 (c26.ht 22) .no = some (c26.wc E26, [2]) := by kernel_rfl
theorem ok26 : p26.Ok PG 26 := mkOk (env_nil PG) k26 (by kernel_rfl)
theorem e26 (n : Nat) (a0 : List (Int)) : f26 n a0 =
  bif decide (0 ≤ (a0.length : Int)) then
   bif decide ((Int.toNat (a0.length : Int)) ≤ 4294967296) then
    Option.bind (loopT n (fun (self1 : (List (Int)) × Int → Option ((List (Int)))) (x0 : (List (Int)) × Int) =>
      bif decide (x0.2 < (a0.length : Int)) then
       bnd a0.length x0.2 fun n2 =>
       Option.bind a0[n2]? fun y3 =>
       bnd x0.1.length x0.2 fun n4 =>
       Option.bind x0.1[n4]? fun y5 =>
       self1 (x0.1.set n4 y3, IntKind.wrap .i64 (x0.2 + (1 : Int)))
      else some x0.1) (List.replicate (Int.toNat (a0.length : Int)) (0 : Int), (0 : Int)) : Option ((List (Int)))) fun x6 =>
    some (x6, ())
   else none
  else none := by kernel_rfl
/- laws.toEvent -/
def c17 : TC :=
 (.seq (.rg [o1 1 (.a (.t 0)),
   ⟨false, [], [], .det 2 (.a (.c [.i .i64, .i .i64, .i .i64, .i .i64, .i .i64, .i .i64, .i .i64, .b, .sl [.i .i64]] [.int .i64 (0), .int .i64 (0), .int .i64 (0), .int .i64 (0), .int .i64 (0), .int .i64 (0), .int .i64 (0), .bool false, .slice none 0 0])), [2, 1000000001], (some 2), none⟩])
 (.seq (.rg [⟨false, [], [], .det 2 (.a (.c [.i .i64, .i .i64, .i .i64, .i .i64, .i .i64, .i .i64, .i .i64, .b, .sl [.i .i64]] [.int .i64 (0), .int .i64 (0), .int .i64 (0), .int .i64 (0), .int .i64 (0), .int .i64 (0), .int .i64 (0), .bool false, .slice none 0 0])), [3, 1000000001], (some 3), none⟩])
 (.seq (.rg [o1 4 (.idx .nil),
   o1 5 (.load 1 [] 0 (.t 4) 1 false),
   o1 6 (.idx .nil),
   ⟨false, [], [], .det 1 (.store 3 [] 0 (.t 6) (.t 5)), [3], none, none⟩])
 (.seq (.rg [o1 7 (.idx .nil),
   o1 8 (.load 1 [] 1 (.t 7) 1 false),
   o1 9 (.idx .nil),
   ⟨false, [], [], .det 1 (.store 3 [] 1 (.t 9) (.t 8)), [3], none, none⟩])
 (.seq (.rg [o1 10 (.idx .nil),
   o1 11 (.load 1 [] 2 (.t 10) 1 false),
   o1 12 (.idx .nil),
   ⟨false, [], [], .det 1 (.store 3 [] 2 (.t 12) (.t 11)), [3], none, none⟩])
 (.seq (.rg [o1 13 (.idx .nil),
   o1 14 (.load 1 [] 3 (.t 13) 4 false),
   ⟨false, [], [], .call 1 83 [.t 14] .no, [15], (some 15), none⟩,
   o1 16 (.idx .nil),
   ⟨false, [], [], .det 1 (.store 3 [] 3 (.t 16) (.t 15)), [3], none, none⟩])
 (.seq (.rg [o1 17 (.idx .nil),
   o1 18 (.load 1 [] 7 (.t 17) 1 false),
   o1 19 (.idx .nil),
   ⟨false, [], [], .det 1 (.store 3 [] 7 (.t 19) (.t 18)), [3], none, none⟩])
 (.seq (.rg [o1 20 (.idx .nil),
   o1 21 (.load 1 [] 8 (.t 20) 1 false),
   ⟨false, [], [], .call 1 26 [.t 21] .no, [22], (some 22), none⟩,
   o1 23 (.idx .nil),
   ⟨false, [], [], .det 2 (.store 3 [] 8 (.t 23) (.t 22)), [3, 22], none, none⟩])
 (.seq (.rg [o1 24 (.load 3 [] 0 .nil 9 true),
   ⟨false, [24], [], .det 2 (.store 2 [] 0 .nil (.t 24)), [2, 24, 24, 3], none, none⟩])
 .ret)))))))))
def s17 : Sig := ⟨[.rd true [.d, .d, .d, .d, .d, .d, .d, .d, .sl (.own none) [.d]]], (.one true [.d, .d, .d, .d, .d, .d, .d, .d, .sl (.own none) [.d]])⟩
noncomputable def E17 : TEnv := envOf [(83, p83), (26, p26)]
noncomputable def f17 (n : Nat) : (Int × Int × Int × Int × Int × Int × Int × Bool × List (Int)) → Option ((Int × Int × Int × Int × Int × Int × Int × Bool × List (Int)) × (Unit)) := runFn n E17 c17 [[.i .i64, .i .i64, .i .i64, .i .i64, .i .i64, .i .i64, .i .i64, .b, .sl [.i .i64]]] [.i .i64, .i .i64, .i .i64, .i .i64, .i .i64, .i .i64, .i .i64, .b, .sl [.i .i64]] [] [2] .no
noncomputable def g17 : (Int × Int × Int × Int × Int × Int × Int × Bool × List (Int)) → Option ((Int × Int × Int × Int × Int × Int × Int × Bool × List (Int)) × (Unit)) := f17 BIG
noncomputable def p17 : TSp := ⟨s17, [[.i .i64, .i .i64, .i .i64, .i .i64, .i .i64, .i .i64, .i .i64, .b, .sl [.i .i64]]], [.i .i64, .i .i64, .i .i64, .i .i64, .i .i64, .i .i64, .i .i64, .b, .sl [.i .i64]], [], Ou.j .no, g17⟩
theorem k17 : chkW PG E17 17 s17 (c17.ht 25) .no = some (c17.wc E17, [2]) := by kernel_rfl
theorem ok17 : p17.Ok PG 17 := mkOk (env_cons ok83 (env_cons ok26 (env_nil PG))) k17 (by kernel_rfl)
theorem e17 (n : Nat) (a0 : Int × Int × Int × Int × Int × Int × Int × Bool × List (Int)) : f17 n a0 =
  Option.bind (g83 (a0.2.2.2.1, a0.2.2.2.2.1, a0.2.2.2.2.2.1, a0.2.2.2.2.2.2.1)) fun r0 =>
  Option.bind (g26 a0.2.2.2.2.2.2.2.2) fun r1 =>
  some ((a0.1, a0.2.1, a0.2.2.1, r0.1.1, r0.1.2.1, r0.1.2.2.1, r0.1.2.2.2, a0.2.2.2.2.2.2.2.1, r1.1), ()) := by kernel_rfl
/- spec.l01In -/
def c82 : TC :=
 (.seq (.rg [o1 6 (.lit [.b] [.bool false])])
 (.seq (.join [⟨6, [.b], false⟩] 32704 none (.rg [o1 7 (.copy 0),
   o1 8 (.copy 1),
   o1 9 (.data (.bin .geq) [.t 7, .t 8]),
   o1 10 (.copy 9),
   ⟨false, [], [], .det 1 (.copy 0), [11], (some 11), some (3, true)⟩,
   ⟨false, [], [], .det 1 (.copy 2), [12], (some 12), some (3, true)⟩,
   ⟨false, [], [], .det 1 (.data (.bin .leq) [.t 11, .t 12]), [13], (some 13), some (3, true)⟩,
   ⟨false, [], [], .pick 10 (.t 13) (.c (.bool false)), [14], (some 14), none⟩,
   o1 6 (.copy 14)]))
 .ret))
def s82 : Sig := ⟨[.rd false [.d], .rd false [.d], .rd false [.d]], (.one false [.d])⟩
noncomputable def E82 : TEnv := envOf []
noncomputable def f82 (n : Nat) : Int × Int × Int → Option ((Bool) × (Unit)) := runFn n E82 c82 [[.i .i64], [.i .i64], [.i .i64]] [.b] [] [6] .no
noncomputable def g82 : Int × Int × Int → Option ((Bool) × (Unit)) := f82 BIG
noncomputable def p82 : TSp := ⟨s82, [[.i .i64], [.i .i64], [.i .i64]], [.b], [], Ou.j .no, g82⟩
theorem k82 : chkW PG E82 82 s82 (c82.ht 15) .no = some (c82.wc E82, [6]) := by kernel_rfl
theorem ok82 : p82.Ok PG 82 := mkOk (env_nil PG) k82 (by kernel_rfl)
theorem e82 (n : Nat) (a0 : Int) (a1 : Int) (a2 : Int) : f82 n (a0, a1, a2) =
  Option.bind (bif decide (a1 ≤ a0) then
    some (decide (a0 ≤ a2))
   else some false : Option (Bool)) fun x0 =>
  some (x0, ()) := by kernel_rfl
/- spec.EventOk -/
def c16 : TC :=
 (.seq (.rg [o1 3 (.a (.t 1)),
   o1 4 (.lit [.b] [.bool false])])
 (.seq (.seq (.join [⟨32, [.b], false⟩] 8589934528 none (.rg [o1 6 (.copy 0),
   ⟨false, [], [], .call 1 82 [.t 6, .c [.i .i64] [.int .i64 (1)], .c [.i .i64] [.int .i64 (3)]] .no, [7], (some 7), none⟩,
   o1 8 (.data .not [.t 7]),
   o1 9 (.copy 8),
   ⟨false, [], [], .det 1 (.idx .nil), [10], (some 10), some (3, false)⟩,
   ⟨false, [], [], .det 1 (.load 3 [] 0 (.t 10) 1 false), [11], (some 11), some (3, false)⟩,
   ⟨false, [], [], .call 1 82 [.t 11, .c [.i .i64] [.int .i64 (1)], .c [.i .i64] [.int .i64 (7)]] .no, [12], (some 12), some (3, false)⟩,
   ⟨false, [], [], .det 1 (.data .not [.t 12]), [13], (some 13), some (3, false)⟩,
   ⟨false, [], [], .pick 9 (.c (.bool true)) (.t 13), [14], (some 14), none⟩,
   o1 15 (.copy 14),
   ⟨false, [], [], .det 1 (.idx .nil), [16], (some 16), some (9, false)⟩,
   ⟨false, [], [], .det 1 (.load 3 [] 1 (.t 16) 1 false), [17], (some 17), some (9, false)⟩,
   ⟨false, [], [], .det 1 (.copy 0), [18], (some 18), some (9, false)⟩,
   ⟨false, [], [], .call 1 82 [.t 17, .c [.i .i64] [.int .i64 (0)], .t 18] .no, [19], (some 19), some (9, false)⟩,
   ⟨false, [], [], .det 1 (.data .not [.t 19]), [20], (some 20), some (9, false)⟩,
   ⟨false, [], [], .pick 15 (.c (.bool true)) (.t 20), [21], (some 21), none⟩,
   o1 22 (.copy 21),
   ⟨false, [], [], .det 1 (.idx .nil), [23], (some 23), some (16, false)⟩,
   ⟨false, [], [], .det 1 (.load 3 [] 2 (.t 23) 1 false), [24], (some 24), some (16, false)⟩,
   ⟨false, [], [], .det 1 (.data (.bin .lss) [.t 24, .c (.int .i64 (0))]), [25], (some 25), some (16, false)⟩,
   ⟨false, [], [], .pick 22 (.c (.bool true)) (.t 25), [26], (some 26), none⟩,
   o1 27 (.copy 26),
   ⟨false, [], [], .det 1 (.idx .nil), [28], (some 28), some (21, false)⟩,
   ⟨false, [], [], .det 1 (.load 3 [] 8 (.t 28) 1 false), [29], (some 29), some (21, false)⟩,
   ⟨false, [], [], .det 1 (.len 29), [30], (some 30), some (21, false)⟩,
   ⟨false, [], [], .det 1 (.data (.bin .gtr) [.t 30, .c (.int .i64 (30))]), [31], (some 31), some (21, false)⟩,
   ⟨false, [], [], .pick 27 (.c (.bool true)) (.t 31), [32], (some 32), none⟩]))
 (.cond (.t 32)
  (.seq (.rg [o1 4 (.lit [.b] [.bool false])])
  .ret)
  .skip))
 (.seq (.rg [o1 33 (.idx .nil),
   o1 34 (.load 3 [] 3 (.t 33) 4 false),
   ⟨false, [], [], .det 2 (.a (.c [.i .i64, .i .i64, .i .i64, .i .i64] [.int .i64 (0), .int .i64 (0), .int .i64 (0), .int .i64 (0)])), [5, 1000000001], (some 5), none⟩,
   ⟨false, [], [], .det 1 (.store 5 [] 0 .nil (.t 34)), [5], none, none⟩])
 (.seq (.join [⟨4, [.b], false⟩] 288230341791973392 none (.rg [o1 35 (.idx .nil),
   o1 36 (.load 3 [] 0 (.t 35) 1 false),
   o1 37 (.data (.bin .neq) [.t 36, .c (.int .i64 (1))]),
   o1 38 (.copy 37),
   ⟨false, [], [], .det 1 (.idx .nil), [39], (some 39), some (3, false)⟩,
   ⟨false, [], [], .det 1 (.load 5 [] 0 (.t 39) 1 false), [40], (some 40), some (3, false)⟩,
   ⟨false, [], [], .call 1 82 [.t 40, .c [.i .i64] [.int .i64 (1)], .c [.i .i64] [.int .i64 (100000)]] .no, [41], (some 41), some (3, false)⟩,
   ⟨false, [], [], .det 1 (.copy 41), [42], (some 42), some (3, false)⟩,
   ⟨false, [], [], .det 1 (.idx .nil), [43], (some 43), some (7, true)⟩,
   ⟨false, [], [], .det 1 (.load 5 [] 1 (.t 43) 1 false), [44], (some 44), some (7, true)⟩,
   ⟨false, [], [], .call 1 82 [.t 44, .c [.i .i64] [.int .i64 (0)], .c [.i .i64] [.int .i64 (100000)]] .no, [45], (some 45), some (7, true)⟩,
   ⟨false, [], [], .pick 42 (.t 45) (.c (.bool false)), [46], (some 46), some (3, false)⟩,
   ⟨false, [], [], .det 1 (.copy 46), [47], (some 47), some (3, false)⟩,
   ⟨false, [], [], .det 1 (.idx .nil), [48], (some 48), some (12, true)⟩,
   ⟨false, [], [], .det 1 (.load 5 [] 2 (.t 48) 1 false), [49], (some 49), some (12, true)⟩,
   ⟨false, [], [], .call 1 82 [.t 49, .c [.i .i64] [.int .i64 (0)], .c [.i .i64] [.int .i64 (100000)]] .no, [50], (some 50), some (12, true)⟩,
   ⟨false, [], [], .pick 47 (.t 50) (.c (.bool false)), [51], (some 51), some (3, false)⟩,
   ⟨false, [], [], .det 1 (.copy 51), [52], (some 52), some (3, false)⟩,
   ⟨false, [], [], .det 1 (.idx .nil), [53], (some 53), some (17, true)⟩,
   ⟨false, [], [], .det 1 (.load 5 [] 3 (.t 53) 1 false), [54], (some 54), some (17, true)⟩,
   ⟨false, [], [], .call 1 82 [.t 54, .c [.i .i64] [.int .i64 (0)], .c [.i .i64] [.int .i64 (100000)]] .no, [55], (some 55), some (17, true)⟩,
   ⟨false, [], [], .pick 52 (.t 55) (.c (.bool false)), [56], (some 56), some (3, false)⟩,
   ⟨false, [], [], .pick 38 (.c (.bool true)) (.t 56), [57], (some 57), none⟩,
   o1 4 (.copy 57)]))
 .ret))))
def s16 : Sig := ⟨[.rd false [.d], .rd true [.d, .d, .d, .d, .d, .d, .d, .d, .sl (.own none) [.d]]], (.one false [.d])⟩
noncomputable def E16 : TEnv := envOf [(82, p82)]
noncomputable def f16 (n : Nat) : Int × (Int × Int × Int × Int × Int × Int × Int × Bool × List (Int)) → Option ((Bool) × (Unit)) := runFn n E16 c16 [[.i .i64], [.i .i64, .i .i64, .i .i64, .i .i64, .i .i64, .i .i64, .i .i64, .b, .sl [.i .i64]]] [.b] [] [4] .no
noncomputable def g16 : Int × (Int × Int × Int × Int × Int × Int × Int × Bool × List (Int)) → Option ((Bool) × (Unit)) := f16 BIG
noncomputable def p16 : TSp := ⟨s16, [[.i .i64], [.i .i64, .i .i64, .i .i64, .i .i64, .i .i64, .i .i64, .i .i64, .b, .sl [.i .i64]]], [.b], [], Ou.j .no, g16⟩
theorem k16 : chkW PG E16 16 s16 (c16.ht 58) .no = some (c16.wc E16, [4]) := by kernel_rfl
theorem ok16 : p16.Ok PG 16 := mkOk (env_cons ok82 (env_nil PG)) k16 (by kernel_rfl)
theorem e16 (n : Nat) (a0 : Int) (a1 : Int × Int × Int × Int × Int × Int × Int × Bool × List (Int)) : f16 n (a0, a1) =
  Option.bind (Option.bind (g82 (a0, (1 : Int), (3 : Int))) fun r0 =>
   bif !r0.1 then
    some true
   else Option.bind (g82 (a1.1, (1 : Int), (7 : Int))) fun r1 =>
   bif !r1.1 then
    some true
   else Option.bind (g82 (a1.2.1, (0 : Int), a0)) fun r2 =>
   bif !r2.1 then
    some true
   else bif decide (a1.2.2.1 < (0 : Int)) then
    some true
   else some (decide ((30 : Int) < (a1.2.2.2.2.2.2.2.2.length : Int))) : Option (Bool)) fun x3 =>
  bif x3 then
   some (false, ())
  else Option.bind (bif !decide (a1.1 = (1 : Int)) then
    some true
   else Option.bind (g82 (a1.2.2.2.1, (1 : Int), (100000 : Int))) fun r4 =>
   bif r4.1 then
    Option.bind (g82 (a1.2.2.2.2.1, (0 : Int), (100000 : Int))) fun r5 =>
    bif r5.1 then
     Option.bind (g82 (a1.2.2.2.2.2.1, (0 : Int), (100000 : Int))) fun r6 =>
     bif r6.1 then
      Option.bind (g82 (a1.2.2.2.2.2.2.1, (0 : Int), (100000 : Int))) fun r7 =>
      some r7.1
     else some false
    else some false
   else some false : Option (Bool)) fun x8 =>
  some (x8, ()) := by kernel_rfl
/- impl.in -/
def c84 : TC :=
 (.seq (.rg [o1 6 (.lit [.b] [.bool false])])
 (.seq (.join [⟨6, [.b], false⟩] 32704 none (.rg [o1 7 (.copy 0),
   o1 8 (.copy 1),
   o1 9 (.data (.bin .geq) [.t 7, .t 8]),
   o1 10 (.copy 9),
   ⟨false, [], [], .det 1 (.copy 0), [11], (some 11), some (3, true)⟩,
   ⟨false, [], [], .det 1 (.copy 2), [12], (some 12), some (3, true)⟩,
   ⟨false, [], [], .det 1 (.data (.bin .leq) [.t 11, .t 12]), [13], (some 13), some (3, true)⟩,
   ⟨false, [], [], .pick 10 (.t 13) (.c (.bool false)), [14], (some 14), none⟩,
   o1 6 (.copy 14)]))
 .ret))
def s84 : Sig := ⟨[.rd false [.d], .rd false [.d], .rd false [.d]], (.one false [.d])⟩
noncomputable def E84 : TEnv := envOf []
noncomputable def f84 (n : Nat) : Int × Int × Int → Option ((Bool) × (Unit)) := runFn n E84 c84 [[.i .i64], [.i .i64], [.i .i64]] [.b] [] [6] .no
noncomputable def g84 : Int × Int × Int → Option ((Bool) × (Unit)) := f84 BIG
noncomputable def p84 : TSp := ⟨s84, [[.i .i64], [.i .i64], [.i .i64]], [.b], [], Ou.j .no, g84⟩
theorem k84 : chkW PG E84 84 s84 (c84.ht 15) .no = some (c84.wc E84, [6]) := by kernel_rfl
theorem ok84 : p84.Ok PG 84 := mkOk (env_nil PG) k84 (by kernel_rfl)
theorem e84 (n : Nat) (a0 : Int) (a1 : Int) (a2 : Int) : f84 n (a0, a1, a2) =
  Option.bind (bif decide (a1 ≤ a0) then
    some (decide (a0 ≤ a2))
   else some false : Option (Bool)) fun x0 =>
  some (x0, ()) := by kernel_rfl
/- impl.EventOk -/
def c18 : TC :=
 (.seq (.rg [o1 3 (.a (.t 1)),
   o1 4 (.lit [.b] [.bool false])])
 (.seq (.seq (.join [⟨32, [.b], false⟩] 8589934528 none (.rg [o1 6 (.copy 0),
   ⟨false, [], [], .call 1 84 [.t 6, .c [.i .i64] [.int .i64 (1)], .c [.i .i64] [.int .i64 (3)]] .no, [7], (some 7), none⟩,
   o1 8 (.data .not [.t 7]),
   o1 9 (.copy 8),
   ⟨false, [], [], .det 1 (.idx .nil), [10], (some 10), some (3, false)⟩,
   ⟨false, [], [], .det 1 (.load 3 [] 0 (.t 10) 1 false), [11], (some 11), some (3, false)⟩,
   ⟨false, [], [], .call 1 84 [.t 11, .c [.i .i64] [.int .i64 (1)], .c [.i .i64] [.int .i64 (7)]] .no, [12], (some 12), some (3, false)⟩,
   ⟨false, [], [], .det 1 (.data .not [.t 12]), [13], (some 13), some (3, false)⟩,
   ⟨false, [], [], .pick 9 (.c (.bool true)) (.t 13), [14], (some 14), none⟩,
   o1 15 (.copy 14),
   ⟨false, [], [], .det 1 (.idx .nil), [16], (some 16), some (9, false)⟩,
   ⟨false, [], [], .det 1 (.load 3 [] 1 (.t 16) 1 false), [17], (some 17), some (9, false)⟩,
   ⟨false, [], [], .det 1 (.copy 0), [18], (some 18), some (9, false)⟩,
   ⟨false, [], [], .call 1 84 [.t 17, .c [.i .i64] [.int .i64 (0)], .t 18] .no, [19], (some 19), some (9, false)⟩,
   ⟨false, [], [], .det 1 (.data .not [.t 19]), [20], (some 20), some (9, false)⟩,
   ⟨false, [], [], .pick 15 (.c (.bool true)) (.t 20), [21], (some 21), none⟩,
   o1 22 (.copy 21),
   ⟨false, [], [], .det 1 (.idx .nil), [23], (some 23), some (16, false)⟩,
   ⟨false, [], [], .det 1 (.load 3 [] 2 (.t 23) 1 false), [24], (some 24), some (16, false)⟩,
   ⟨false, [], [], .det 1 (.data (.bin .lss) [.t 24, .c (.int .i64 (0))]), [25], (some 25), some (16, false)⟩,
   ⟨false, [], [], .pick 22 (.c (.bool true)) (.t 25), [26], (some 26), none⟩,
   o1 27 (.copy 26),
   ⟨false, [], [], .det 1 (.idx .nil), [28], (some 28), some (21, false)⟩,
   ⟨false, [], [], .det 1 (.load 3 [] 8 (.t 28) 1 false), [29], (some 29), some (21, false)⟩,
   ⟨false, [], [], .det 1 (.len 29), [30], (some 30), some (21, false)⟩,
   ⟨false, [], [], .det 1 (.data (.bin .gtr) [.t 30, .c (.int .i64 (30))]), [31], (some 31), some (21, false)⟩,
   ⟨false, [], [], .pick 27 (.c (.bool true)) (.t 31), [32], (some 32), none⟩]))
 (.cond (.t 32)
  (.seq (.rg [o1 4 (.lit [.b] [.bool false])])
  .ret)
  .skip))
 (.seq (.rg [o1 33 (.idx .nil),
   o1 34 (.load 3 [] 3 (.t 33) 4 false),
   ⟨false, [], [], .det 2 (.a (.c [.i .i64, .i .i64, .i .i64, .i .i64] [.int .i64 (0), .int .i64 (0), .int .i64 (0), .int .i64 (0)])), [5, 1000000001], (some 5), none⟩,
   ⟨false, [], [], .det 1 (.store 5 [] 0 .nil (.t 34)), [5], none, none⟩])
 (.seq (.join [⟨4, [.b], false⟩] 288230341791973392 none (.rg [o1 35 (.idx .nil),
   o1 36 (.load 3 [] 0 (.t 35) 1 false),
   o1 37 (.data (.bin .neq) [.t 36, .c (.int .i64 (1))]),
   o1 38 (.copy 37),
   ⟨false, [], [], .det 1 (.idx .nil), [39], (some 39), some (3, false)⟩,
   ⟨false, [], [], .det 1 (.load 5 [] 0 (.t 39) 1 false), [40], (some 40), some (3, false)⟩,
   ⟨false, [], [], .call 1 84 [.t 40, .c [.i .i64] [.int .i64 (1)], .c [.i .i64] [.int .i64 (100000)]] .no, [41], (some 41), some (3, false)⟩,
   ⟨false, [], [], .det 1 (.copy 41), [42], (some 42), some (3, false)⟩,
   ⟨false, [], [], .det 1 (.idx .nil), [43], (some 43), some (7, true)⟩,
   ⟨false, [], [], .det 1 (.load 5 [] 1 (.t 43) 1 false), [44], (some 44), some (7, true)⟩,
   ⟨false, [], [], .call 1 84 [.t 44, .c [.i .i64] [.int .i64 (0)], .c [.i .i64] [.int .i64 (100000)]] .no, [45], (some 45), some (7, true)⟩,
   ⟨false, [], [], .pick 42 (.t 45) (.c (.bool false)), [46], (some 46), some (3, false)⟩,
   ⟨false, [], [], .det 1 (.copy 46), [47], (some 47), some (3, false)⟩,
   ⟨false, [], [], .det 1 (.idx .nil), [48], (some 48), some (12, true)⟩,
   ⟨false, [], [], .det 1 (.load 5 [] 2 (.t 48) 1 false), [49], (some 49), some (12, true)⟩,
   ⟨false, [], [], .call 1 84 [.t 49, .c [.i .i64] [.int .i64 (0)], .c [.i .i64] [.int .i64 (100000)]] .no, [50], (some 50), some (12, true)⟩,
   ⟨false, [], [], .pick 47 (.t 50) (.c (.bool false)), [51], (some 51), some (3, false)⟩,
   ⟨false, [], [], .det 1 (.copy 51), [52], (some 52), some (3, false)⟩,
   ⟨false, [], [], .det 1 (.idx .nil), [53], (some 53), some (17, true)⟩,
   ⟨false, [], [], .det 1 (.load 5 [] 3 (.t 53) 1 false), [54], (some 54), some (17, true)⟩,
   ⟨false, [], [], .call 1 84 [.t 54, .c [.i .i64] [.int .i64 (0)], .c [.i .i64] [.int .i64 (100000)]] .no, [55], (some 55), some (17, true)⟩,
   ⟨false, [], [], .pick 52 (.t 55) (.c (.bool false)), [56], (some 56), some (3, false)⟩,
   ⟨false, [], [], .pick 38 (.c (.bool true)) (.t 56), [57], (some 57), none⟩,
   o1 4 (.copy 57)]))
 .ret))))
def s18 : Sig := ⟨[.rd false [.d], .rd true [.d, .d, .d, .d, .d, .d, .d, .d, .sl (.own none) [.d]]], (.one false [.d])⟩
noncomputable def E18 : TEnv := envOf [(84, p84)]
noncomputable def f18 (n : Nat) : Int × (Int × Int × Int × Int × Int × Int × Int × Bool × List (Int)) → Option ((Bool) × (Unit)) := runFn n E18 c18 [[.i .i64], [.i .i64, .i .i64, .i .i64, .i .i64, .i .i64, .i .i64, .i .i64, .b, .sl [.i .i64]]] [.b] [] [4] .no
noncomputable def g18 : Int × (Int × Int × Int × Int × Int × Int × Int × Bool × List (Int)) → Option ((Bool) × (Unit)) := f18 BIG
noncomputable def p18 : TSp := ⟨s18, [[.i .i64], [.i .i64, .i .i64, .i .i64, .i .i64, .i .i64, .i .i64, .i .i64, .b, .sl [.i .i64]]], [.b], [], Ou.j .no, g18⟩
theorem k18 : chkW PG E18 18 s18 (c18.ht 58) .no = some (c18.wc E18, [4]) := by kernel_rfl
theorem ok18 : p18.Ok PG 18 := mkOk (env_cons ok84 (env_nil PG)) k18 (by kernel_rfl)
theorem e18 (n : Nat) (a0 : Int) (a1 : Int × Int × Int × Int × Int × Int × Int × Bool × List (Int)) : f18 n (a0, a1) =
  Option.bind (Option.bind (g84 (a0, (1 : Int), (3 : Int))) fun r0 =>
   bif !r0.1 then
    some true
   else Option.bind (g84 (a1.1, (1 : Int), (7 : Int))) fun r1 =>
   bif !r1.1 then
    some true
   else Option.bind (g84 (a1.2.1, (0 : Int), a0)) fun r2 =>
   bif !r2.1 then
    some true
   else bif decide (a1.2.2.1 < (0 : Int)) then
    some true
   else some (decide ((30 : Int) < (a1.2.2.2.2.2.2.2.2.length : Int))) : Option (Bool)) fun x3 =>
  bif x3 then
   some (false, ())
  else Option.bind (bif !decide (a1.1 = (1 : Int)) then
    some true
   else Option.bind (g84 (a1.2.2.2.1, (1 : Int), (100000 : Int))) fun r4 =>
   bif r4.1 then
    Option.bind (g84 (a1.2.2.2.2.1, (0 : Int), (100000 : Int))) fun r5 =>
    bif r5.1 then
     Option.bind (g84 (a1.2.2.2.2.2.1, (0 : Int), (100000 : Int))) fun r6 =>
     bif r6.1 then
      Option.bind (g84 (a1.2.2.2.2.2.2.1, (0 : Int), (100000 : Int))) fun r7 =>
      some r7.1
     else some false
    else some false
   else some false : Option (Bool)) fun x8 =>
  some (x8, ()) := by kernel_rfl
/- laws.eqAsk -/
def c85 : TC :=
 (.seq (.rg [o1 2 (.a (.t 0)),
   o1 3 (.a (.t 1)),
   o1 4 (.lit [.b] [.bool false])])
 (.seq (.seq (.rg [o1 5 (.idx .nil),
   o1 6 (.load 2 [] 0 (.t 5) 1 false),
   o1 7 (.idx .nil),
   o1 8 (.load 3 [] 0 (.t 7) 1 false),
   o1 9 (.data (.bin .neq) [.t 6, .t 8])])
 (.cond (.t 9)
  (.seq (.rg [o1 4 (.lit [.b] [.bool false])])
  .ret)
  .skip))
 (.seq (.seq (.rg [o1 10 (.idx .nil),
   o1 11 (.load 2 [] 1 (.t 10) 1 false),
   o1 12 (.idx .nil),
   o1 13 (.load 3 [] 1 (.t 12) 1 false),
   o1 14 (.data (.bin .neq) [.t 11, .t 13])])
 (.cond (.t 14)
  (.seq (.rg [o1 4 (.lit [.b] [.bool false])])
  .ret)
  .skip))
 (.seq (.seq (.rg [o1 15 (.idx .nil),
   o1 16 (.load 2 [] 2 (.t 15) 1 false),
   o1 17 (.idx .nil),
   o1 18 (.load 3 [] 2 (.t 17) 1 false),
   o1 19 (.data (.bin .neq) [.t 16, .t 18])])
 (.cond (.t 19)
  (.seq (.rg [o1 4 (.lit [.b] [.bool false])])
  .ret)
  .skip))
 (.seq (.seq (.rg [o1 20 (.idx .nil),
   o1 21 (.load 2 [] 3 (.t 20) 1 false),
   o1 22 (.idx .nil),
   o1 23 (.load 3 [] 3 (.t 22) 1 false),
   o1 24 (.data (.bin .neq) [.t 21, .t 23])])
 (.cond (.t 24)
  (.seq (.rg [o1 4 (.lit [.b] [.bool false])])
  .ret)
  .skip))
 (.seq (.rg [o1 4 (.lit [.b] [.bool true])])
 .ret))))))
def s85 : Sig := ⟨[.rd true [.d, .d, .d, .d], .rd true [.d, .d, .d, .d]], (.one false [.d])⟩
noncomputable def E85 : TEnv := envOf []
noncomputable def f85 (n : Nat) : (Int × Int × Int × Int) × (Int × Int × Int × Int) → Option ((Bool) × (Unit)) := runFn n E85 c85 [[.i .i64, .i .i64, .i .i64, .i .i64], [.i .i64, .i .i64, .i .i64, .i .i64]] [.b] [] [4] .no
noncomputable def g85 : (Int × Int × Int × Int) × (Int × Int × Int × Int) → Option ((Bool) × (Unit)) := f85 BIG
noncomputable def p85 : TSp := ⟨s85, [[.i .i64, .i .i64, .i .i64, .i .i64], [.i .i64, .i .i64, .i .i64, .i .i64]], [.b], [], Ou.j .no, g85⟩
theorem k85 : chkW PG E85 85 s85 (c85.ht 25) .no = some (c85.wc E85, [4]) := by kernel_rfl
theorem ok85 : p85.Ok PG 85 := mkOk (env_nil PG) k85 (by kernel_rfl)
theorem e85 (n : Nat) (a0 : Int × Int × Int × Int) (a1 : Int × Int × Int × Int) : f85 n (a0, a1) =
  bif !decide (a0.1 = a1.1) then
   some (false, ())
  else bif !decide (a0.2.1 = a1.2.1) then
   some (false, ())
  else bif !decide (a0.2.2.1 = a1.2.2.1) then
   some (false, ())
  else bif !decide (a0.2.2.2 = a1.2.2.2) then
   some (false, ())
  else some (true, ()) := by kernel_rfl
/- laws.eqIntS -/
def c29 : TC :=
 (.seq (.rg [o1 4 (.lit [.b] [.bool false])])
 (.seq (.seq (.rg [o1 6 (.copy 0),
   o1 7 (.len 6),
   o1 8 (.copy 1),
   o1 9 (.len 8),
   o1 10 (.data (.bin .neq) [.t 7, .t 9])])
 (.cond (.t 10)
  (.seq (.rg [o1 4 (.lit [.b] [.bool false])])
  .ret)
  .skip))
 (.seq (.join [] 67106864 (some [⟨4, [.b], false⟩]) (.seq (.rg [o1 5 (.lit [.i .i64] [.int .i64 (0)])])
 (.block 0 (.loop [⟨5, [.i .i64], false⟩] 67106864
  (.seq (.seq (.rg [o1 11 (.copy 5),
    o1 12 (.copy 0),
    o1 13 (.len 12),
    o1 14 (.data (.bin .lss) [.t 11, .t 13])])
  (.cond (.t 14)
   .skip
   (.exit 0)))
  (.seq (.block 1 (.seq (.rg [o1 17 (.copy 0),
    o1 18 (.copy 5),
    o1 19 (.index 17 (.t 18)),
    o1 20 (.load 17 [(0, 1)] 0 (.t 19) 1 false),
    o1 21 (.copy 1),
    o1 22 (.copy 5),
    o1 23 (.index 21 (.t 22)),
    o1 24 (.load 21 [(0, 1)] 0 (.t 23) 1 false),
    o1 25 (.data (.bin .neq) [.t 20, .t 24])])
  (.cond (.t 25)
   (.seq (.rg [o1 4 (.lit [.b] [.bool false])])
   .ret)
   .skip)))
  (.rg [o1 15 (.copy 5),
    o1 16 (.data (.bin .add) [.t 15, .c (.int .i64 (1))]),
    o1 5 (.copy 16)])))))))
 (.seq (.rg [o1 4 (.lit [.b] [.bool true])])
 .ret))))
def s29 : Sig := ⟨[.rd false [.sl (.own none) [.d]], .rd false [.sl (.own none) [.d]]], (.one false [.d])⟩
noncomputable def E29 : TEnv := envOf []
noncomputable def f29 (n : Nat) : List (Int) × List (Int) → Option ((Bool) × (Unit)) := runFn n E29 c29 [[.sl [.i .i64]], [.sl [.i .i64]]] [.b] [] [4] .no
noncomputable def g29 : List (Int) × List (Int) → Option ((Bool) × (Unit)) := f29 BIG
noncomputable def p29 : TSp := ⟨s29, [[.sl [.i .i64]], [.sl [.i .i64]]], [.b], [], Ou.j .no, g29⟩
theorem k29 : chkW PG E29 29 s29 (c29.ht 26) .no = some (c29.wc E29, [4]) := by kernel_rfl
theorem ok29 : p29.Ok PG 29 := mkOk (env_nil PG) k29 (by kernel_rfl)
theorem e29 (n : Nat) (a0 : List (Int)) (a1 : List (Int)) : f29 n (a0, a1) =
  bif !decide ((a0.length : Int) = (a1.length : Int)) then
   some (false, ())
  else Option.bind (loopT n (fun (self1 : Int → Option ((Unit) ⊕ (Bool))) (x0 : Int) =>
    bif decide (x0 < (a0.length : Int)) then
     bnd a0.length x0 fun n2 =>
     Option.bind a0[n2]? fun y3 =>
     bnd a1.length x0 fun n4 =>
     Option.bind a1[n4]? fun y5 =>
     bif !decide (y3 = y5) then
      some (Sum.inr false)
     else self1 (IntKind.wrap .i64 (x0 + (1 : Int)))
    else some (Sum.inl ())) (0 : Int) : Option ((Unit) ⊕ (Bool))) fun y => match y with
  | .inl x6 =>
   some (true, ())
  | .inr x6 =>
   some (x6, ()) := by kernel_rfl
/- laws.eqEvent -/
def c19 : TC :=
 (.seq (.rg [o1 2 (.a (.t 0)),
   o1 3 (.a (.t 1)),
   o1 4 (.lit [.b] [.bool false])])
 (.seq (.seq (.rg [o1 5 (.idx .nil),
   o1 6 (.load 2 [] 0 (.t 5) 1 false),
   o1 7 (.idx .nil),
   o1 8 (.load 3 [] 0 (.t 7) 1 false),
   o1 9 (.data (.bin .neq) [.t 6, .t 8])])
 (.cond (.t 9)
  (.seq (.rg [o1 4 (.lit [.b] [.bool false])])
  .ret)
  .skip))
 (.seq (.seq (.rg [o1 10 (.idx .nil),
   o1 11 (.load 2 [] 1 (.t 10) 1 false),
   o1 12 (.idx .nil),
   o1 13 (.load 3 [] 1 (.t 12) 1 false),
   o1 14 (.data (.bin .neq) [.t 11, .t 13])])
 (.cond (.t 14)
  (.seq (.rg [o1 4 (.lit [.b] [.bool false])])
  .ret)
  .skip))
 (.seq (.seq (.rg [o1 15 (.idx .nil),
   o1 16 (.load 2 [] 2 (.t 15) 1 false),
   o1 17 (.idx .nil),
   o1 18 (.load 3 [] 2 (.t 17) 1 false),
   o1 19 (.data (.bin .neq) [.t 16, .t 18])])
 (.cond (.t 19)
  (.seq (.rg [o1 4 (.lit [.b] [.bool false])])
  .ret)
  .skip))
 (.seq (.seq (.rg [o1 20 (.idx .nil),
   o1 21 (.load 2 [] 3 (.t 20) 4 false),
   o1 22 (.idx .nil),
   o1 23 (.load 3 [] 3 (.t 22) 4 false),
   ⟨false, [], [], .call 1 85 [.t 21, .t 23] .no, [24], (some 24), none⟩,
   o1 25 (.data .not [.t 24])])
 (.cond (.t 25)
  (.seq (.rg [o1 4 (.lit [.b] [.bool false])])
  .ret)
  .skip))
 (.seq (.seq (.rg [o1 26 (.idx .nil),
   o1 27 (.load 2 [] 7 (.t 26) 1 false),
   o1 28 (.idx .nil),
   o1 29 (.load 3 [] 7 (.t 28) 1 false),
   o1 30 (.data (.beq true) [.t 27, .t 29])])
 (.cond (.t 30)
  (.seq (.rg [o1 4 (.lit [.b] [.bool false])])
  .ret)
  .skip))
 (.seq (.seq (.rg [o1 31 (.idx .nil),
   o1 32 (.load 2 [] 8 (.t 31) 1 false),
   o1 33 (.idx .nil),
   o1 34 (.load 3 [] 8 (.t 33) 1 false),
   ⟨false, [], [], .call 1 29 [.t 32, .t 34] .no, [35], (some 35), none⟩,
   o1 36 (.data .not [.t 35])])
 (.cond (.t 36)
  (.seq (.rg [o1 4 (.lit [.b] [.bool false])])
  .ret)
  .skip))
 (.seq (.rg [o1 4 (.lit [.b] [.bool true])])
 .ret))))))))
def s19 : Sig := ⟨[.rd true [.d, .d, .d, .d, .d, .d, .d, .d, .sl (.own none) [.d]], .rd true [.d, .d, .d, .d, .d, .d, .d, .d, .sl (.own none) [.d]]], (.one false [.d])⟩
noncomputable def E19 : TEnv := envOf [(85, p85), (29, p29)]
noncomputable def f19 (n : Nat) : (Int × Int × Int × Int × Int × Int × Int × Bool × List (Int)) × (Int × Int × Int × Int × Int × Int × Int × Bool × List (Int)) → Option ((Bool) × (Unit)) := runFn n E19 c19 [[.i .i64, .i .i64, .i .i64, .i .i64, .i .i64, .i .i64, .i .i64, .b, .sl [.i .i64]], [.i .i64, .i .i64, .i .i64, .i .i64, .i .i64, .i .i64, .i .i64, .b, .sl [.i .i64]]] [.b] [] [4] .no
noncomputable def g19 : (Int × Int × Int × Int × Int × Int × Int × Bool × List (Int)) × (Int × Int × Int × Int × Int × Int × Int × Bool × List (Int)) → Option ((Bool) × (Unit)) := f19 BIG
noncomputable def p19 : TSp := ⟨s19, [[.i .i64, .i .i64, .i .i64, .i .i64, .i .i64, .i .i64, .i .i64, .b, .sl [.i .i64]], [.i .i64, .i .i64, .i .i64, .i .i64, .i .i64, .i .i64, .i .i64, .b, .sl [.i .i64]]], [.b], [], Ou.j .no, g19⟩
theorem k19 : chkW PG E19 19 s19 (c19.ht 37) .no = some (c19.wc E19, [4]) := by kernel_rfl
theorem ok19 : p19.Ok PG 19 := mkOk (env_cons ok85 (env_cons ok29 (env_nil PG))) k19 (by kernel_rfl)
theorem e19 (n : Nat) (a0 : Int × Int × Int × Int × Int × Int × Int × Bool × List (Int)) (a1 : Int × Int × Int × Int × Int × Int × Int × Bool × List (Int)) : f19 n (a0, a1) =
  bif !decide (a0.1 = a1.1) then
   some (false, ())
  else bif !decide (a0.2.1 = a1.2.1) then
   some (false, ())
  else bif !decide (a0.2.2.1 = a1.2.2.1) then
   some (false, ())
  else Option.bind (g85 ((a0.2.2.2.1, a0.2.2.2.2.1, a0.2.2.2.2.2.1, a0.2.2.2.2.2.2.1), (a1.2.2.2.1, a1.2.2.2.2.1, a1.2.2.2.2.2.1, a1.2.2.2.2.2.2.1))) fun r0 =>
  bif !r0.1 then
   some (false, ())
  else bif !(a0.2.2.2.2.2.2.2.1 == a1.2.2.2.2.2.2.2.1) then
   some (false, ())
  else Option.bind (g29 (a0.2.2.2.2.2.2.2.2, a1.2.2.2.2.2.2.2.2)) fun r1 =>
  bif !r1.1 then
   some (false, ())
  else some (true, ()) := by kernel_rfl
/- laws.FnExactEventOk -/
def c3 : TC :=
 (.seq (.rg [o1 3 (.a (.t 1)),
   o1 4 (.lit [.b] [.bool false])])
 (.seq (.rg [o1 5 (.lit [.i .i64] [.int .i64 (1048576)])])
 (.seq (.rg [o1 9 (.load 3 [] 0 .nil 9 false),
   o1 10 (.copy 5),
   ⟨false, [], [], .call 1 15 [.t 9, .t 10] .no, [11], (some 11), none⟩,
   o1 5 (.copy 11)])
 (.seq (.seq (.rg [o1 12 (.copy 5),
   o1 13 (.data (.bin .lss) [.t 12, .c (.int .i64 (0))])])
 (.cond (.t 13)
  (.seq (.rg [o1 4 (.lit [.b] [.bool true])])
  .ret)
  .skip))
 (.seq (.rg [o1 14 (.copy 0),
   o1 15 (.load 3 [] 0 .nil 9 false),
   ⟨false, [], [], .call 1 17 [.t 15] .no, [16], (some 16), none⟩,
   ⟨false, [], [], .call 1 16 [.t 14, .t 16] .no, [17], (some 17), none⟩,
   o1 6 (.copy 17)])
 (.seq (.rg [o1 18 (.load 3 [] 0 .nil 9 false),
   ⟨false, [], [], .call 1 17 [.t 18] .no, [19], (some 19), none⟩,
   ⟨false, [], [], .det 2 (.a (.c [.i .i64, .i .i64, .i .i64, .i .i64, .i .i64, .i .i64, .i .i64, .b, .sl [.i .i64]] [.int .i64 (0), .int .i64 (0), .int .i64 (0), .int .i64 (0), .int .i64 (0), .int .i64 (0), .int .i64 (0), .bool false, .slice none 0 0])), [7, 1000000001], (some 7), none⟩,
   ⟨false, [], [], .det 2 (.store 7 [] 0 .nil (.t 19)), [7, 19], none, none⟩])
 (.seq (.rg [o1 20 (.copy 0),
   o1 21 (.load 7 [] 0 .nil 9 true),
   ⟨false, [], [], .call 1 18 [.t 20, .t 21] .no, [22], (some 22), none⟩,
   o1 8 (.copy 22)])
 (.seq (.seq (.rg [o1 23 (.copy 8),
   o1 24 (.copy 6),
   o1 25 (.data (.beq true) [.t 23, .t 24])])
 (.cond (.t 25)
  (.seq (.rg [o1 4 (.lit [.b] [.bool false])])
  .ret)
  .skip))
 (.seq (.seq (.rg [o1 26 (.load 7 [] 0 .nil 9 true),
   o1 27 (.load 3 [] 0 .nil 9 false),
   ⟨false, [], [], .call 1 17 [.t 27] .no, [28], (some 28), none⟩,
   ⟨false, [], [], .call 1 19 [.t 26, .t 28] .no, [29], (some 29), none⟩,
   o1 30 (.data .not [.t 29])])
 (.cond (.t 30)
  (.seq (.rg [o1 4 (.lit [.b] [.bool false])])
  .ret)
  .skip))
 (.seq (.rg [o1 4 (.lit [.b] [.bool true])])
 .ret))))))))))
def s3 : Sig := ⟨[.rd false [.d], .rd true [.d, .d, .d, .d, .d, .d, .d, .d, .sl (.own none) [.d]]], (.one false [.d])⟩
noncomputable def E3 : TEnv := envOf [(15, p15), (17, p17), (16, p16), (18, p18), (19, p19)]
noncomputable def f3 (n : Nat) : Int × (Int × Int × Int × Int × Int × Int × Int × Bool × List (Int)) → Option ((Bool) × (Unit)) := runFn n E3 c3 [[.i .i64], [.i .i64, .i .i64, .i .i64, .i .i64, .i .i64, .i .i64, .i .i64, .b, .sl [.i .i64]]] [.b] [] [4] .no
noncomputable def g3 : Int × (Int × Int × Int × Int × Int × Int × Int × Bool × List (Int)) → Option ((Bool) × (Unit)) := f3 BIG
noncomputable def p3 : TSp := ⟨s3, [[.i .i64], [.i .i64, .i .i64, .i .i64, .i .i64, .i .i64, .i .i64, .i .i64, .b, .sl [.i .i64]]], [.b], [], Ou.j .no, g3⟩
theorem k3 : chkW PG E3 3 s3 (c3.ht 31) .no = some (c3.wc E3, [4]) := by kernel_rfl
theorem ok3 : p3.Ok PG 3 := mkOk (env_cons ok15 (env_cons ok17 (env_cons ok16 (env_cons ok18 (env_cons ok19 (env_nil PG)))))) k3 (by kernel_rfl)
theorem e3 (n : Nat) (a0 : Int) (a1 : Int × Int × Int × Int × Int × Int × Int × Bool × List (Int)) : f3 n (a0, a1) =
  Option.bind (g15 (a1, (1048576 : Int))) fun r0 =>
  bif decide (r0.1 < (0 : Int)) then
   some (true, ())
  else Option.bind (g17 a1) fun r1 =>
  Option.bind (g16 (a0, r1.1)) fun r2 =>
  Option.bind (g17 a1) fun r3 =>
  Option.bind (g18 (a0, (r3.1.1, r3.1.2.1, r3.1.2.2.1, r3.1.2.2.2.1, r3.1.2.2.2.2.1, r3.1.2.2.2.2.2.1, r3.1.2.2.2.2.2.2.1, r3.1.2.2.2.2.2.2.2.1, r3.1.2.2.2.2.2.2.2.2))) fun r4 =>
  bif !(r4.1 == r2.1) then
   some (false, ())
  else Option.bind (g17 a1) fun r5 =>
  Option.bind (g19 ((r3.1.1, r3.1.2.1, r3.1.2.2.1, r3.1.2.2.2.1, r3.1.2.2.2.2.1, r3.1.2.2.2.2.2.1, r3.1.2.2.2.2.2.2.1, r3.1.2.2.2.2.2.2.2.1, r3.1.2.2.2.2.2.2.2.2), r5.1)) fun r6 =>
  bif !r6.1 then
   some (false, ())
  else some (true, ()) := by kernel_rfl
end Go.Fw

/- Loops and whole numbers: what a loop computes, from what one round does. -/
namespace Go.Fw

theorem loop_rel {X B : Type} {F : (X → Option B) → X → Option B} (I : X → Prop) (μ : X → Nat) (Q : X → B → Prop)
    (h : ∀ self x, I x → (∀ y, I y → μ y < μ x → ∃ b, self y = some b ∧ Q y b) → ∃ b, F self x = some b ∧ Q x b) : ∀ {n : Nat} {x : X}, μ x < n → I x → ∃ b, loopT n F x = some b ∧ Q x b
  | 0, _, hn, _ => absurd hn (Nat.not_lt_zero _)
  | n + 1, x, hn, hi => h (it F n) x hi fun _ hy hm => loop_rel I μ Q h (n := n) (by omega) hy

theorem loop_eq {X B : Type} {F : (X → Option B) → X → Option B} (I : X → Prop) (μ : X → Nat) (R : X → B)
    (h : ∀ self x, I x → (∀ y, I y → μ y < μ x → self y = some (R y)) → F self x = some (R x)) {n : Nat} {x : X} (hn : μ x < n) (hi : I x) : loopT n F x = some (R x) := by
  obtain ⟨b, h1, h2⟩ := loop_rel (F := F) I μ (fun x b => b = R x) (fun self x hx hs => ⟨_, h self x hx fun y hy hm => by obtain ⟨b, h1, h2⟩ := hs y hy hm; rw [h1, h2], rfl⟩) hn hi
  rw [h1, h2]

theorem wr {n : Int} (h : -9223372036854775808 ≤ n) (h' : n ≤ 9223372036854775807) : IntKind.wrap .i64 n = n := by
  rw [IntKind.wrap_i64]; omega
theorem wr1 {i : Nat} (h : i < maxLen) : IntKind.wrap .i64 ((i : Int) + 1) = ((i + 1 : Nat) : Int) := by
  have : maxLen = 9223372036854775807 := by decide
  rw [wr (by omega) (by omega)]; rfl

theorem wf64 {n : Int} (h : (Lit.int .i64 n).wf = true) : -9223372036854775808 ≤ n ∧ n ≤ 9223372036854775807 := by
  simpa [Lit.wf, IntKind.min, IntKind.max, IntKind.signed, IntKind.bits] using h

theorem bnd_ok {B : Type} {len : Nat} {i : Int} {k : Nat → Option B} (h : 0 ≤ i) (h' : i < len) : bnd len i k = k i.toNat := by
  unfold bnd
  rw [if_pos ⟨h, by omega⟩]
theorem bnd_nat {B : Type} {len : Nat} {i : Nat} {k : Nat → Option B} (h' : i < len) : bnd len (i : Int) k = k i := by
  rw [bnd_ok (Int.natCast_nonneg i) (by omega)]
  simp

/-- A loop that copies a row. -/
theorem cpLoop {α : Type} (a : List α) (hl : a.length < 18446744073709551616) {z : α} {F : (List α × Int → Option (List α)) → List α × Int → Option (List α)}
    (hF : ∀ self out (i : Nat) y, out.length = a.length → a[i]? = some y → F self (out, (i : Int)) = self (out.set i y, ((i + 1 : Nat) : Int)))
    (hE : ∀ self out, out.length = a.length → F self (out, (a.length : Int)) = some out) : loopT BIG F (List.replicate a.length z, 0) = some a := by
  have := loop_eq (F := F) (fun x => ∃ i : Nat, x.2 = i ∧ i ≤ a.length ∧ x.1.length = a.length ∧ x.1.take i = a.take i) (fun x => a.length - x.2.toNat) (fun _ => a) (fun self x ⟨i, h1, h2, h3, h4⟩ hs => ?_) (n := BIG) (x := (List.replicate a.length z, 0)) (by simp; exact hl) ⟨0, rfl, by simp, by simp, by simp⟩
  · exact this
  · obtain ⟨out, j⟩ := x
    simp only at h1 h2 h3 h4
    subst h1
    by_cases hi : i < a.length
    · rw [hF self out i a[i] h3 (List.getElem?_eq_getElem hi)]
      refine hs _ ⟨i + 1, rfl, hi, by simpa using h3, ?_⟩ (by simp; omega)
      rw [List.take_set, List.take_succ_eq_append_getElem (by omega : i < out.length), List.take_succ_eq_append_getElem hi, h4, List.set_append_right _ _ (by simp; omega)]
      simp [Nat.min_eq_left h2]
    · have : i = a.length := by omega
      subst this
      rw [hE self out h3]
      rw [List.take_of_length_le (by omega), List.take_of_length_le (by omega)] at h4
      rw [h4]

/-- A loop that goes through a row, and is left at the first place where it is told so. -/
theorem allLoop {α B : Type} (a : List α) (hl : a.length < 18446744073709551616) {F : (Int → Option (Unit ⊕ B)) → Int → Option (Unit ⊕ B)} (p : Nat → Bool) (b : B)
    (hF : ∀ self (i : Nat) y, a[i]? = some y → F self (i : Int) = if p i then self ((i + 1 : Nat) : Int) else some (.inr b))
    (hE : ∀ self, F self (a.length : Int) = some (.inl ())) : loopT BIG F 0 = some (if ∀ i, i < a.length → p i = true then .inl () else .inr b) := by
  have hh := loop_rel (F := F) (fun x => ∃ i : Nat, x = i ∧ i ≤ a.length) (fun x => a.length - x.toNat) (fun x r => ((∀ i : Nat, x ≤ (i : Int) → i < a.length → p i = true) ∧ r = .inl ()) ∨ ((∃ i : Nat, i < a.length ∧ p i = false) ∧ r = .inr b)) (fun self x ⟨i, h1, h2⟩ hs => ?_) (n := BIG) (x := 0) (by simp; exact hl) ⟨0, rfl, by simp⟩
  · obtain ⟨r, hr, hq⟩ := hh
    rw [hr]
    congr 1
    rcases hq with ⟨h1, rfl⟩ | ⟨⟨i, h1, h2⟩, rfl⟩
    · rw [if_pos fun i hi => h1 i (by omega) hi]
    · rw [if_neg]
      intro h
      rw [h i h1] at h2; cases h2
  · subst h1
    by_cases hi : i < a.length
    · rw [hF self i a[i] (List.getElem?_eq_getElem hi)]
      cases hp : p i with
      | true =>
        rw [if_pos rfl]
        obtain ⟨r, hr, hq⟩ := hs _ ⟨i + 1, rfl, hi⟩ (by simp; omega)
        refine ⟨r, hr, ?_⟩
        rcases hq with ⟨h1, rfl⟩ | h1
        · refine .inl ⟨fun k hk hk' => ?_, rfl⟩
          by_cases h : k = i
          · subst h; exact hp
          · exact h1 k (by omega) hk'
        · exact .inr h1
      | false => exact ⟨_, rfl, .inr ⟨⟨i, hi, hp⟩, rfl⟩⟩
    · have : i = a.length := by omega
      subst this
      exact ⟨_, hE self, .inl ⟨fun k hk hk' => by omega, rfl⟩⟩

theorem maxLen_lt : maxLen < 18446744073709551616 := by decide

/-- Two rows that are looked at side by side. -/
theorem eqLoop {α B : Type} [DecidableEq α] (a b : List α) (hl : a.length ≤ maxLen) (hab : a.length = b.length) {F : (Int → Option (Unit ⊕ B)) → Int → Option (Unit ⊕ B)} (r : B)
    (hF : ∀ self (i : Nat) x y, a[i]? = some x → b[i]? = some y → F self (i : Int) = if x = y then self ((i + 1 : Nat) : Int) else some (.inr r))
    (hE : ∀ self, F self (a.length : Int) = some (.inl ())) : loopT BIG F 0 = some (if a = b then .inl () else .inr r) := by
  rw [allLoop a (Nat.lt_of_le_of_lt hl maxLen_lt) (fun i => decide (a[i]? = b[i]?)) r (fun self i y hy => ?_) hE]
  · congr 1
    by_cases h : a = b
    · subst h; simp
    · rw [if_neg h, if_neg]
      intro h'
      apply h
      apply List.ext_getElem? fun i => ?_
      by_cases hi : i < a.length
      · simpa using h' i hi
      · rw [List.getElem?_eq_none (by omega), List.getElem?_eq_none (by omega)]
  · have hi := (List.getElem?_eq_some_iff.1 hy).1
    have hb : b[i]? = some (b[i]'(by omega)) := List.getElem?_eq_getElem (by omega)
    rw [hF self i y _ hy hb, hy, hb]
    simp

/-- A loop that goes through a row and keeps an account. -/
theorem foldLoop {α S B : Type} (a : List α) (hl : a.length < 18446744073709551616) {F : (S × Int → Option B) → S × Int → Option B} (I : Nat → S → Prop) (st : S → α → S) (R : S → B) {s0 : S} (h0 : I 0 s0)
    (hI : ∀ i s y, a[i]? = some y → I i s → I (i + 1) (st s y)) (hF : ∀ self s (i : Nat) y, a[i]? = some y → I i s → F self (s, (i : Int)) = self (st s y, ((i + 1 : Nat) : Int)))
    (hE : ∀ self s, I a.length s → F self (s, (a.length : Int)) = some (R s)) : loopT BIG F (s0, 0) = some (R (a.foldl st s0)) := by
  have := loop_eq (F := F) (fun x => ∃ i : Nat, x.2 = i ∧ i ≤ a.length ∧ I i x.1) (fun x => a.length - x.2.toNat) (fun x => R ((a.drop x.2.toNat).foldl st x.1)) (fun self x ⟨i, h1, h2, h3⟩ hs => ?_) (n := BIG) (x := (s0, 0)) (by simp; exact hl) ⟨0, rfl, by simp, h0⟩
  · simpa using this
  · obtain ⟨s, j⟩ := x
    simp only at h1 h2 h3
    subst h1
    by_cases hi : i < a.length
    · have hy := List.getElem?_eq_getElem hi
      rw [hF self s i a[i] hy h3, hs _ ⟨i + 1, rfl, hi, hI _ _ _ hy h3⟩ (by simp; omega)]
      simp only [Int.toNat_natCast]
      rw [List.drop_eq_getElem_cons hi, List.foldl_cons]
    · have : i = a.length := by omega
      subst this
      rw [hE self s h3]
      simp

theorem set_take_drop {α : Type} {a t : List α} {i : Nat} {z : α} (ht : t.length = a.length) (hi : i < a.length) (hz : t[i]? = some z) : (t.take i ++ a.drop i).set i z = t.take (i + 1) ++ a.drop (i + 1) := by
  have hi' : i < t.length := by omega
  rw [List.getElem?_eq_getElem hi', Option.some.injEq] at hz
  subst hz
  rw [List.set_append_right _ _ (by simp; omega), List.drop_eq_getElem_cons hi, show i - (t.take i).length = 0 from by simp; omega, List.set_cons_zero, List.take_succ_eq_append_getElem hi', List.append_assoc]
  rfl

/-- A loop that writes a mark upon each of a row. -/
theorem markLoop {α : Type} (a t : List α) (ht : t.length = a.length) (hl : a.length < 18446744073709551616) (c : Nat → Int) {F : (List α × Int × Int → Option (List α × Int)) → List α × Int × Int → Option (List α × Int)}
    (hF : ∀ self out (i : Nat) y z, i < a.length → out.length = a.length → out[i]? = some y → a[i]? = some y → t[i]? = some z → F self (out, c i, (i : Int)) = self (out.set i z, c (i + 1), ((i + 1 : Nat) : Int)))
    (hE : ∀ self out, out.length = a.length → F self (out, c a.length, (a.length : Int)) = some (out, c a.length)) : loopT BIG F (a, c 0, 0) = some (t, c a.length) := by
  have := loop_eq (F := F) (fun x => ∃ i : Nat, x.2.2 = i ∧ i ≤ a.length ∧ x.2.1 = c i ∧ x.1 = t.take i ++ a.drop i) (fun x => a.length - x.2.2.toNat) (fun _ => (t, c a.length)) (fun self x ⟨i, h1, h2, h3, h4⟩ hs => ?_) (n := BIG) (x := (a, c 0, 0)) (by simp; exact hl) ⟨0, rfl, by simp, rfl, by simp⟩
  · exact this
  · obtain ⟨out, k, j⟩ := x
    simp only at h1 h2 h3 h4
    subst h1 h3
    have hlen : out.length = a.length := by rw [h4]; simp; omega
    by_cases hi : i < a.length
    · have hy := List.getElem?_eq_getElem hi
      have hz : t[i]? = some (t[i]'(by omega)) := List.getElem?_eq_getElem (by omega)
      have ho : out[i]? = a[i]? := by
        rw [h4, List.getElem?_append_right (by simp; omega)]
        simp [Nat.min_eq_left (show i ≤ t.length from by omega)]
      rw [hF self out i a[i] _ hi hlen (by rw [ho, hy]) hy hz]
      have e := set_take_drop ht hi hz
      rw [← h4] at e
      exact hs _ ⟨i + 1, rfl, hi, rfl, e⟩ (by simp; omega)
    · have : i = a.length := by omega
      subst this
      rw [hE self out hlen, h4]
      simp [List.take_of_length_le, ht]
end Go.Fw

namespace Go.Fw

theorem h81 (a : List Int) (l : Int) (hl : 0 ≤ l) (hl' : l ≤ 1048576) (ha : a.length ≤ maxLen) : g81 (a, l) = some (if (a.length : Int) ≤ l then l - a.length else -1, ()) := by
  have hm : maxLen = 9223372036854775807 := by decide
  show f81 BIG (a, l) = _
  rw [e81, wr (by omega) (by omega)]
  by_cases h : (a.length : Int) ≤ l
  · rw [if_pos h, decide_eq_false (by omega), cond_false]
  · rw [if_neg h, decide_eq_true (by omega), cond_true]

theorem h26 (a : List Int) (ha : a.length ≤ 1048576) : g26 a = some (a, ()) := by
  have hm : maxLen = 9223372036854775807 := by decide
  show f26 BIG a = _
  rw [e26, decide_eq_true (by omega), cond_true, decide_eq_true (by simp; omega), cond_true]
  simp only [Int.toNat_natCast]
  rw [cpLoop a (by omega)]
  · rfl
  · intro self out i y hl hy
    have hi := (List.getElem?_eq_some_iff.1 hy).1
    simp only [show ((i : Int) < (a.length : Int)) from by omega, decide_true, cond_true]
    rw [bnd_nat hi, hy, Option.bind_some, bnd_nat (by omega), List.getElem?_eq_getElem (by omega), Option.bind_some, wr1 (by omega)]
  · intro self out hl
    simp

theorem h83 (a : Int × Int × Int × Int) : g83 a = some (a, ()) := e83 BIG a

theorem h82 (a b c : Int) : g82 (a, b, c) = some (decide (b ≤ a) && decide (a ≤ c), ()) := by
  show f82 BIG _ = _
  rw [e82]
  cases decide (b ≤ a) <;> rfl
theorem h84 (a b c : Int) : g84 (a, b, c) = some (decide (b ≤ a) && decide (a ≤ c), ()) := by
  show f84 BIG _ = _
  rw [e84]
  cases decide (b ≤ a) <;> rfl

theorem h85 (a : Int × Int × Int × Int) : g85 (a, a) = some (true, ()) := by
  show f85 BIG _ = _
  rw [e85]
  simp

theorem h29 (a : List Int) (ha : a.length ≤ maxLen) : g29 (a, a) = some (true, ()) := by
  show f29 BIG _ = _
  rw [e29]
  simp only [decide_true, Bool.not_true, cond_false]
  rw [eqLoop a a ha rfl false]
  · simp
  · intro self i x y hx hy
    have hi := (List.getElem?_eq_some_iff.1 hy).1
    simp only [show ((i : Int) < (a.length : Int)) from by omega, decide_true, cond_true]
    rw [bnd_nat hi, hx, Option.bind_some, bnd_nat hi, hy, Option.bind_some, wr1 (by omega)]
    by_cases h : x = y <;> simp [h]
  · intro self
    simp

abbrev Ev := Int × Int × Int × Int × Int × Int × Int × Bool × List Int

theorem h15 (a : Ev) (ha : a.2.2.2.2.2.2.2.2.length ≤ maxLen) : g15 (a, 1048576) = some (if a.2.2.2.2.2.2.2.2.length ≤ 1048576 then 1048576 - (a.2.2.2.2.2.2.2.2.length : Int) else -1, ()) := by
  show f15 BIG (a, 1048576) = _
  rw [e15, h81 _ _ (by omega) (by omega) ha, Option.bind_some]
  by_cases h : (a.2.2.2.2.2.2.2.2.length : Int) ≤ 1048576
  · rw [if_pos h, if_pos (by omega), decide_eq_false (by simp; omega)]; rfl
  · rw [if_neg h, if_neg (by omega)]; rfl

theorem h17 (a : Ev) (ha : a.2.2.2.2.2.2.2.2.length ≤ 1048576) : g17 a = some (a, ()) := by
  show f17 BIG a = _
  rw [e17, h83, Option.bind_some, h26 _ ha]
  rfl

theorem h19 (a : Ev) (ha : a.2.2.2.2.2.2.2.2.length ≤ maxLen) : g19 (a, a) = some (true, ()) := by
  show f19 BIG _ = _
  rw [e19, h85, h29 _ ha]
  simp

theorem h16 (a : Int) (e : Ev) : ∃ b, g16 (a, e) = some (b, ()) ∧ g18 (a, e) = some (b, ()) := by
  have h1 : g16 (a, e) = f16 BIG (a, e) := rfl
  have h2 : g18 (a, e) = f18 BIG (a, e) := rfl
  have h : g18 (a, e) = g16 (a, e) := by
    rw [h1, h2, e16, e18]
    simp only [h82, h84]
  rw [h, h1, e16]
  suffices H : ∃ b, f16 BIG (a, e) = some (b, ()) by
    obtain ⟨b, hb⟩ := H
    rw [e16] at hb
    exact ⟨b, hb, hb⟩
  rw [e16]
  simp only [h82, Option.bind_some, Bool.cond_eq_ite]
  (repeat' (first | split | simp only [Option.bind_some])) <;> exact ⟨_, rfl⟩

theorem law3 (a : Int) (e : Ev) (ha : e.2.2.2.2.2.2.2.2.length ≤ maxLen) : g3 (a, e) = some (true, ()) := by
  show f3 BIG _ = _
  rw [e3, h15 e ha, Option.bind_some]
  by_cases h : e.2.2.2.2.2.2.2.2.length ≤ 1048576
  · rw [if_pos h, decide_eq_false (by simp; omega), cond_false]
    obtain ⟨b, h1, h2⟩ := h16 a e
    rw [h17 e h]
    simp only [Option.bind_some]
    rw [h1, h2, h19 e ha]
    simp
  · rw [if_neg h]; rfl
end Go.Fw

/- The given functions, as what they compute; each is shown to be what the code does. -/
namespace Go.Fw
/- laws.szEdgeS -/
def c25 : TC :=
 (.seq (.rg [o1 4 (.lit [.i .i64] [.int .i64 (0)])])
 (.seq (.rg [o1 5 (.copy 1),
   o1 6 (.copy 0),
   o1 7 (.len 6),
   o1 8 (.data (.bin .sub) [.t 5, .t 7]),
   o1 1 (.copy 8)])
 (.seq (.seq (.rg [o1 9 (.copy 1),
   o1 10 (.data (.bin .lss) [.t 9, .c (.int .i64 (0))])])
 (.cond (.t 10)
  (.seq (.rg [o1 4 (.lit [.i .i64] [.int .i64 (-1)])])
  .ret)
  .skip))
 (.seq (.rg [o1 11 (.copy 1),
   o1 4 (.copy 11)])
 .ret))))
def s25 : Sig := ⟨[.rd false [.sl (.own none) [.d, .d]], .rd false [.d]], (.one false [.d])⟩
noncomputable def E25 : TEnv := envOf []
noncomputable def f25 (n : Nat) : (List (Int × Int)) × Int → Option ((Int) × (Unit)) := runFn n E25 c25 [[.sl [.i .i64, .i .i64]], [.i .i64]] [.i .i64] [] [4] .no
noncomputable def g25 : (List (Int × Int)) × Int → Option ((Int) × (Unit)) := f25 BIG
noncomputable def p25 : TSp := ⟨s25, [[.sl [.i .i64, .i .i64]], [.i .i64]], [.i .i64], [], Ou.j .no, g25⟩
theorem k25 : chkW PG E25 25 s25 (c25.ht 12) .no = some (c25.wc E25, [4]) := by kernel_rfl
theorem ok25 : p25.Ok PG 25 := mkOk (env_nil PG) k25 (by kernel_rfl)
theorem e25 (n : Nat) (a0 : List (Int × Int)) (a1 : Int) : f25 n (a0, a1) =
  bif decide ((IntKind.wrap .i64 (a1 - (a0.length : Int))) < (0 : Int)) then
   some ((-1 : Int), ())
  else some (IntKind.wrap .i64 (a1 - (a0.length : Int)), ()) := by kernel_rfl
/- laws.toEdge -/
def c94 : TC :=
 (.seq (.rg [o1 1 (.a (.t 0)),
   ⟨false, [], [], .det 2 (.a (.c [.i .i64, .i .i64] [.int .i64 (0), .int .i64 (0)])), [2, 1000000001], (some 2), none⟩])
 (.seq (.rg [⟨false, [], [], .det 2 (.a (.c [.i .i64, .i .i64] [.int .i64 (0), .int .i64 (0)])), [3, 1000000001], (some 3), none⟩])
 (.seq (.rg [o1 4 (.idx .nil),
   o1 5 (.load 1 [] 0 (.t 4) 1 false),
   o1 6 (.idx .nil),
   ⟨false, [], [], .det 1 (.store 3 [] 0 (.t 6) (.t 5)), [3], none, none⟩])
 (.seq (.rg [o1 7 (.idx .nil),
   o1 8 (.load 1 [] 1 (.t 7) 1 false),
   o1 9 (.idx .nil),
   ⟨false, [], [], .det 1 (.store 3 [] 1 (.t 9) (.t 8)), [3], none, none⟩])
 (.seq (.rg [o1 10 (.load 3 [] 0 .nil 2 false),
   ⟨false, [], [], .det 1 (.store 2 [] 0 .nil (.t 10)), [2], none, none⟩])
 .ret)))))
def s94 : Sig := ⟨[.rd true [.d, .d]], (.one true [.d, .d])⟩
noncomputable def E94 : TEnv := envOf []
noncomputable def f94 (n : Nat) : (Int × Int) → Option ((Int × Int) × (Unit)) := runFn n E94 c94 [[.i .i64, .i .i64]] [.i .i64, .i .i64] [] [2] .no
noncomputable def g94 : (Int × Int) → Option ((Int × Int) × (Unit)) := f94 BIG
noncomputable def p94 : TSp := ⟨s94, [[.i .i64, .i .i64]], [.i .i64, .i .i64], [], Ou.j .no, g94⟩
theorem k94 : chkW PG E94 94 s94 (c94.ht 11) .no = some (c94.wc E94, [2]) := by kernel_rfl
theorem ok94 : p94.Ok PG 94 := mkOk (env_nil PG) k94 (by kernel_rfl)
theorem e94 (n : Nat) (a0 : Int × Int) : f94 n a0 =
  some ((a0.1, a0.2), ()) := by kernel_rfl
/- laws.toEdgeS -/
def c27 : TC :=
 (.seq (.rg [o1 2 (.lit [.sl [.i .i64, .i .i64]] [.slice none 0 0])])
 (.seq (.rg [o1 5 (.copy 0),
   o1 6 (.len 5),
   o1 7 (.make (.t 6) [.i .i64, .i .i64]),
   ⟨false, [], [], .det 2 (.copy 7), [3, 7], (some 3), none⟩])
 (.seq (.join [⟨3, [.sl [.i .i64, .i .i64]], false⟩] 4194072 none (.seq (.rg [o1 4 (.lit [.i .i64] [.int .i64 (0)])])
 (.block 0 (.loop [⟨3, [.sl [.i .i64, .i .i64]], false⟩, ⟨4, [.i .i64], false⟩] 4194072
  (.seq (.seq (.rg [o1 8 (.copy 4),
    o1 9 (.copy 0),
    o1 10 (.len 9),
    o1 11 (.data (.bin .lss) [.t 8, .t 10])])
  (.cond (.t 11)
   .skip
   (.exit 0)))
  (.seq (.block 1 (.rg [⟨true, [], [], .det 1 (.copy 3), [14], (some 14), none⟩,
    o1 15 (.copy 4),
    o1 16 (.copy 0),
    o1 17 (.copy 4),
    o1 18 (.index 16 (.t 17)),
    o1 19 (.load 16 [(0, 2)] 0 (.t 18) 2 false),
    ⟨false, [], [], .call 1 94 [.t 19] .no, [20], (some 20), none⟩,
    o1 21 (.index 14 (.t 15)),
    ⟨false, [], [], .det 1 (.store 3 [(0, 2)] 0 (.t 21) (.t 20)), [3, 14], none, none⟩]))
  (.rg [o1 12 (.copy 4),
    o1 13 (.data (.bin .add) [.t 12, .c (.int .i64 (1))]),
    o1 4 (.copy 13)])))))))
 (.seq (.rg [⟨false, [], [], .det 2 (.copy 3), [22, 3], (some 22), none⟩,
   ⟨false, [], [], .det 2 (.copy 22), [2, 22], (some 2), none⟩])
 .ret))))
def s27 : Sig := ⟨[.rd false [.sl (.own none) [.d, .d]]], (.one false [.sl (.own none) [.d, .d]])⟩
noncomputable def E27 : TEnv := envOf [(94, p94)]
noncomputable def f27 (n : Nat) : (List (Int × Int)) → Option ((List (Int × Int)) × (Unit)) := runFn n E27 c27 [[.sl [.i .i64, .i .i64]]] [.sl [.i .i64, .i .i64]] [] [2] .no
noncomputable def g27 : (List (Int × Int)) → Option ((List (Int × Int)) × (Unit)) := f27 BIG
noncomputable def p27 : TSp := ⟨s27, [[.sl [.i .i64, .i .i64]]], [.sl [.i .i64, .i .i64]], [], Ou.j .no, g27⟩
theorem k27 : chkW PG E27 27 s27 (c27.ht 23) .no = some (c27.wc E27, [2]) := by kernel_rfl
theorem ok27 : p27.Ok PG 27 := mkOk (env_cons ok94 (env_nil PG)) k27 (by kernel_rfl)
theorem e27 (n : Nat) (a0 : List (Int × Int)) : f27 n a0 =
  bif decide (0 ≤ (a0.length : Int)) then
   bif decide ((Int.toNat (a0.length : Int)) ≤ 4294967296) then
    Option.bind (loopT n (fun (self1 : (List (Int × Int)) × Int → Option ((List (Int × Int)))) (x0 : (List (Int × Int)) × Int) =>
      bif decide (x0.2 < (a0.length : Int)) then
       bnd a0.length x0.2 fun n2 =>
       Option.bind a0[n2]? fun y3 =>
       Option.bind (g94 y3) fun r4 =>
       bnd x0.1.length x0.2 fun n5 =>
       Option.bind x0.1[n5]? fun y6 =>
       self1 (x0.1.set n5 (r4.1.1, r4.1.2), IntKind.wrap .i64 (x0.2 + (1 : Int)))
      else some x0.1) (List.replicate (Int.toNat (a0.length : Int)) ((0 : Int), (0 : Int)), (0 : Int)) : Option ((List (Int × Int)))) fun x7 =>
    some (x7, ())
   else none
  else none := by kernel_rfl
/- spec.Inside -/
def c23 : TC :=
 (.seq (.rg [o1 6 (.lit [.sl [.i .i64, .i .i64]] [.slice none 0 0])])
 (.seq (.rg [o1 10 (.sli [.i .i64, .i .i64] []),
   ⟨false, [], [], .det 2 (.copy 10), [7, 10], (some 7), none⟩])
 (.seq (.join [⟨7, [.sl [.i .i64, .i .i64]], false⟩] 144115188075854720 none (.seq (.rg [o1 8 (.lit [.i .i64] [.int .i64 (0)])])
 (.block 0 (.loop [⟨7, [.sl [.i .i64, .i .i64]], false⟩, ⟨8, [.i .i64], false⟩] 144115188075854720
  (.seq (.seq (.rg [o1 11 (.copy 8),
    o1 12 (.copy 1),
    o1 13 (.len 12),
    o1 14 (.data (.bin .lss) [.t 11, .t 13])])
  (.cond (.t 14)
   .skip
   (.exit 0)))
  (.seq (.join [⟨7, [.sl [.i .i64, .i .i64]], false⟩] 144115188075725440 none (.block 1 (.seq (.rg [o1 17 (.copy 1),
    o1 18 (.copy 8),
    o1 19 (.index 17 (.t 18)),
    o1 20 (.load 17 [(0, 2)] 0 (.t 19) 2 false),
    ⟨false, [], [], .det 2 (.a (.c [.i .i64, .i .i64] [.int .i64 (0), .int .i64 (0)])), [9, 1000000001], (some 9), none⟩,
    ⟨false, [], [], .det 1 (.store 9 [] 0 .nil (.t 20)), [9], none, none⟩])
  (.seq (.join [⟨52, [.b], false⟩] 9007199252643840 none (.rg [o1 21 (.idx .nil),
    o1 22 (.load 9 [] 0 (.t 21) 1 false),
    o1 23 (.copy 0),
    o1 24 (.len 23),
    o1 25 (.data (.bin .sub) [.t 24, .c (.int .i64 (1))]),
    ⟨false, [], [], .call 1 82 [.t 22, .c [.i .i64] [.int .i64 (0)], .t 25] .no, [26], (some 26), none⟩,
    o1 27 (.copy 26),
    ⟨false, [], [], .det 1 (.idx .nil), [28], (some 28), some (6, true)⟩,
    ⟨false, [], [], .det 1 (.load 9 [] 1 (.t 28) 1 false), [29], (some 29), some (6, true)⟩,
    ⟨false, [], [], .det 1 (.copy 0), [30], (some 30), some (6, true)⟩,
    ⟨false, [], [], .det 1 (.len 30), [31], (some 31), some (6, true)⟩,
    ⟨false, [], [], .det 1 (.data (.bin .sub) [.t 31, .c (.int .i64 (1))]), [32], (some 32), some (6, true)⟩,
    ⟨false, [], [], .call 1 82 [.t 29, .c [.i .i64] [.int .i64 (0)], .t 32] .no, [33], (some 33), some (6, true)⟩,
    ⟨false, [], [], .pick 27 (.t 33) (.c (.bool false)), [34], (some 34), none⟩,
    o1 35 (.copy 34),
    ⟨false, [], [], .det 1 (.copy 0), [36], (some 36), some (14, true)⟩,
    ⟨false, [], [], .det 1 (.idx .nil), [37], (some 37), some (14, true)⟩,
    ⟨false, [], [], .det 1 (.load 9 [] 0 (.t 37) 1 false), [38], (some 38), some (14, true)⟩,
    ⟨false, [], [], .det 1 (.index 36 (.t 38)), [39], (some 39), some (14, true)⟩,
    ⟨false, [], [], .det 1 (.load 36 [(0, 1)] 0 (.t 39) 1 false), [40], (some 40), some (14, true)⟩,
    ⟨false, [], [], .det 1 (.copy 2), [41], (some 41), some (14, true)⟩,
    ⟨false, [], [], .det 1 (.data (.bin .eql) [.t 40, .t 41]), [42], (some 42), some (14, true)⟩,
    ⟨false, [], [], .pick 35 (.t 42) (.c (.bool false)), [43], (some 43), none⟩,
    o1 44 (.copy 43),
    ⟨false, [], [], .det 1 (.copy 0), [45], (some 45), some (23, true)⟩,
    ⟨false, [], [], .det 1 (.idx .nil), [46], (some 46), some (23, true)⟩,
    ⟨false, [], [], .det 1 (.load 9 [] 1 (.t 46) 1 false), [47], (some 47), some (23, true)⟩,
    ⟨false, [], [], .det 1 (.index 45 (.t 47)), [48], (some 48), some (23, true)⟩,
    ⟨false, [], [], .det 1 (.load 45 [(0, 1)] 0 (.t 48) 1 false), [49], (some 49), some (23, true)⟩,
    ⟨false, [], [], .det 1 (.copy 2), [50], (some 50), some (23, true)⟩,
    ⟨false, [], [], .det 1 (.data (.bin .eql) [.t 49, .t 50]), [51], (some 51), some (23, true)⟩,
    ⟨false, [], [], .pick 44 (.t 51) (.c (.bool false)), [52], (some 52), none⟩]))
  (.cond (.t 52)
   (.rg [⟨false, [], [], .det 2 (.copy 7), [53, 7], (some 53), none⟩,
     o1 54 (.load 9 [] 0 .nil 2 false),
     o1 55 (.sli [.i .i64, .i .i64] [.t 54]),
     ⟨false, [], [], .det 2 (.app (some 53) 55), [56, 53], (some 56), none⟩,
     ⟨false, [], [], .det 2 (.copy 56), [7, 56], (some 7), none⟩])
   .skip)))))
  (.rg [o1 15 (.copy 8),
    o1 16 (.data (.bin .add) [.t 15, .c (.int .i64 (1))]),
    o1 8 (.copy 16)])))))))
 (.seq (.rg [⟨false, [], [], .det 2 (.copy 7), [57, 7], (some 57), none⟩,
   ⟨false, [], [], .det 2 (.copy 57), [6, 57], (some 6), none⟩])
 .ret))))
def s23 : Sig := ⟨[.rd false [.sl (.own none) [.d]], .rd false [.sl (.own none) [.d, .d]], .rd false [.d]], (.one false [.sl (.own none) [.d, .d]])⟩
noncomputable def E23 : TEnv := envOf [(82, p82)]
noncomputable def f23 (n : Nat) : List (Int) × (List (Int × Int)) × Int → Option ((List (Int × Int)) × (Unit)) := runFn n E23 c23 [[.sl [.i .i64]], [.sl [.i .i64, .i .i64]], [.i .i64]] [.sl [.i .i64, .i .i64]] [] [6] .no
noncomputable def g23 : List (Int) × (List (Int × Int)) × Int → Option ((List (Int × Int)) × (Unit)) := f23 BIG
noncomputable def p23 : TSp := ⟨s23, [[.sl [.i .i64]], [.sl [.i .i64, .i .i64]], [.i .i64]], [.sl [.i .i64, .i .i64]], [], Ou.j .no, g23⟩
theorem k23 : chkW PG E23 23 s23 (c23.ht 58) .no = some (c23.wc E23, [6]) := by kernel_rfl
theorem ok23 : p23.Ok PG 23 := mkOk (env_cons ok82 (env_nil PG)) k23 (by kernel_rfl)
theorem e23 (n : Nat) (a0 : List (Int)) (a1 : List (Int × Int)) (a2 : Int) : f23 n (a0, a1, a2) =
  Option.bind (loopT n (fun (self1 : (List (Int × Int)) × Int → Option ((List (Int × Int)))) (x0 : (List (Int × Int)) × Int) =>
    bif decide (x0.2 < (a1.length : Int)) then
     Option.bind (bnd a1.length x0.2 fun n2 =>
      Option.bind a1[n2]? fun y3 =>
      Option.bind (Option.bind (g82 (y3.1, (0 : Int), IntKind.wrap .i64 ((a0.length : Int) - (1 : Int)))) fun r4 =>
       bif r4.1 then
        Option.bind (g82 (y3.2, (0 : Int), IntKind.wrap .i64 ((a0.length : Int) - (1 : Int)))) fun r5 =>
        bif r5.1 then
         bnd a0.length y3.1 fun n6 =>
         Option.bind a0[n6]? fun y7 =>
         bif decide (y7 = a2) then
          bnd a0.length y3.2 fun n8 =>
          Option.bind a0[n8]? fun y9 =>
          some (decide (y9 = a2))
         else some false
        else some false
       else some false : Option (Bool)) fun x10 =>
      bif x10 then
       bif decide (x0.1.length + ([(y3.1, y3.2)]).length ≤ 4294967296) then
        some (x0.1 ++ ([(y3.1, y3.2)]))
       else none
      else some x0.1 : Option ((List (Int × Int)))) fun x11 =>
     self1 (x11, IntKind.wrap .i64 (x0.2 + (1 : Int)))
    else some x0.1) ([], (0 : Int)) : Option ((List (Int × Int)))) fun x12 =>
  some (x12, ()) := by kernel_rfl
/- impl.owns -/
def c93 : TC :=
 (.seq (.rg [o1 6 (.lit [.b] [.bool false])])
 (.seq (.join [⟨6, [.b], false⟩] 1048512 none (.rg [o1 7 (.copy 1),
   o1 8 (.copy 0),
   o1 9 (.len 8),
   o1 10 (.data (.bin .sub) [.t 9, .c (.int .i64 (1))]),
   ⟨false, [], [], .call 1 84 [.t 7, .c [.i .i64] [.int .i64 (0)], .t 10] .no, [11], (some 11), none⟩,
   o1 12 (.copy 11),
   ⟨false, [], [], .det 1 (.copy 0), [13], (some 13), some (5, true)⟩,
   ⟨false, [], [], .det 1 (.copy 1), [14], (some 14), some (5, true)⟩,
   ⟨false, [], [], .det 1 (.index 13 (.t 14)), [15], (some 15), some (5, true)⟩,
   ⟨false, [], [], .det 1 (.load 13 [(0, 1)] 0 (.t 15) 1 false), [16], (some 16), some (5, true)⟩,
   ⟨false, [], [], .det 1 (.copy 2), [17], (some 17), some (5, true)⟩,
   ⟨false, [], [], .det 1 (.data (.bin .eql) [.t 16, .t 17]), [18], (some 18), some (5, true)⟩,
   ⟨false, [], [], .pick 12 (.t 18) (.c (.bool false)), [19], (some 19), none⟩,
   o1 6 (.copy 19)]))
 .ret))
def s93 : Sig := ⟨[.rd false [.sl (.own none) [.d]], .rd false [.d], .rd false [.d]], (.one false [.d])⟩
noncomputable def E93 : TEnv := envOf [(84, p84)]
noncomputable def f93 (n : Nat) : List (Int) × Int × Int → Option ((Bool) × (Unit)) := runFn n E93 c93 [[.sl [.i .i64]], [.i .i64], [.i .i64]] [.b] [] [6] .no
noncomputable def g93 : List (Int) × Int × Int → Option ((Bool) × (Unit)) := f93 BIG
noncomputable def p93 : TSp := ⟨s93, [[.sl [.i .i64]], [.i .i64], [.i .i64]], [.b], [], Ou.j .no, g93⟩
theorem k93 : chkW PG E93 93 s93 (c93.ht 20) .no = some (c93.wc E93, [6]) := by kernel_rfl
theorem ok93 : p93.Ok PG 93 := mkOk (env_cons ok84 (env_nil PG)) k93 (by kernel_rfl)
theorem e93 (n : Nat) (a0 : List (Int)) (a1 : Int) (a2 : Int) : f93 n (a0, a1, a2) =
  Option.bind (Option.bind (g84 (a1, (0 : Int), IntKind.wrap .i64 ((a0.length : Int) - (1 : Int)))) fun r0 =>
   bif r0.1 then
    bnd a0.length a1 fun n1 =>
    Option.bind a0[n1]? fun y2 =>
    some (decide (y2 = a2))
   else some false : Option (Bool)) fun x3 =>
  some (x3, ()) := by kernel_rfl
/- impl.Inside -/
def c22 : TC :=
 (.seq (.rg [o1 6 (.lit [.sl [.i .i64, .i .i64]] [.slice none 0 0])])
 (.seq (.rg [o1 7 (.lit [.sl [.i .i64, .i .i64]] [.slice none 0 0])])
 (.seq (.join [⟨7, [.sl [.i .i64, .i .i64]], false⟩] 8589934208 none (.seq (.rg [o1 10 (.copy 1),
   o1 11 (.len 10),
   o1 12 (.lit [.i .i64] [.int .i64 (0)])])
 (.block 0 (.loop [⟨7, [.sl [.i .i64, .i .i64]], false⟩, ⟨12, [.i .i64], false⟩] 8589931136
  (.seq (.rg [o1 13 (.data (.bin .lss) [.t 12, .t 11])])
  (.seq (.cond (.t 13)
   .skip
   (.exit 0))
  (.seq (.join [⟨7, [.sl [.i .i64, .i .i64]], false⟩] 4294951552 none (.block 1 (.seq (.rg [o1 14 (.index 10 (.t 12)),
    o1 15 (.load 10 [(0, 2)] 0 (.t 14) 2 false),
    ⟨false, [], [], .det 2 (.a (.c [.i .i64, .i .i64] [.int .i64 (0), .int .i64 (0)])), [9, 1000000001], (some 9), none⟩,
    ⟨false, [], [], .det 1 (.store 9 [] 0 .nil (.t 15)), [9], none, none⟩])
  (.seq (.join [⟨27, [.b], false⟩] 268369920 none (.rg [o1 16 (.copy 0),
    o1 17 (.idx .nil),
    o1 18 (.load 9 [] 0 (.t 17) 1 false),
    o1 19 (.copy 2),
    ⟨false, [], [], .call 1 93 [.t 16, .t 18, .t 19] .no, [20], (some 20), none⟩,
    o1 21 (.copy 20),
    ⟨false, [], [], .det 1 (.copy 0), [22], (some 22), some (5, true)⟩,
    ⟨false, [], [], .det 1 (.idx .nil), [23], (some 23), some (5, true)⟩,
    ⟨false, [], [], .det 1 (.load 9 [] 1 (.t 23) 1 false), [24], (some 24), some (5, true)⟩,
    ⟨false, [], [], .det 1 (.copy 2), [25], (some 25), some (5, true)⟩,
    ⟨false, [], [], .call 1 93 [.t 22, .t 24, .t 25] .no, [26], (some 26), some (5, true)⟩,
    ⟨false, [], [], .pick 21 (.t 26) (.c (.bool false)), [27], (some 27), none⟩]))
  (.cond (.t 27)
   (.rg [⟨false, [], [], .det 2 (.copy 7), [28, 7], (some 28), none⟩,
     o1 29 (.load 9 [] 0 .nil 2 false),
     o1 30 (.sli [.i .i64, .i .i64] [.t 29]),
     ⟨false, [], [], .det 2 (.app (some 28) 30), [31, 28], (some 31), none⟩,
     ⟨false, [], [], .det 2 (.copy 31), [7, 31], (some 7), none⟩])
   .skip)))))
  (.rg [o1 32 (.data (.bin .add) [.t 12, .c (.int .i64 (1))]),
    o1 12 (.copy 32)]))))))))
 (.seq (.rg [⟨false, [], [], .det 2 (.copy 7), [33, 7], (some 33), none⟩,
   ⟨false, [], [], .det 2 (.copy 33), [6, 33], (some 6), none⟩])
 .ret))))
def s22 : Sig := ⟨[.rd false [.sl (.own none) [.d]], .rd false [.sl (.own none) [.d, .d]], .rd false [.d]], (.one false [.sl (.own none) [.d, .d]])⟩
noncomputable def E22 : TEnv := envOf [(93, p93)]
noncomputable def f22 (n : Nat) : List (Int) × (List (Int × Int)) × Int → Option ((List (Int × Int)) × (Unit)) := runFn n E22 c22 [[.sl [.i .i64]], [.sl [.i .i64, .i .i64]], [.i .i64]] [.sl [.i .i64, .i .i64]] [] [6] .no
noncomputable def g22 : List (Int) × (List (Int × Int)) × Int → Option ((List (Int × Int)) × (Unit)) := f22 BIG
noncomputable def p22 : TSp := ⟨s22, [[.sl [.i .i64]], [.sl [.i .i64, .i .i64]], [.i .i64]], [.sl [.i .i64, .i .i64]], [], Ou.j .no, g22⟩
theorem k22 : chkW PG E22 22 s22 (c22.ht 34) .no = some (c22.wc E22, [6]) := by kernel_rfl
theorem ok22 : p22.Ok PG 22 := mkOk (env_cons ok93 (env_nil PG)) k22 (by kernel_rfl)
theorem e22 (n : Nat) (a0 : List (Int)) (a1 : List (Int × Int)) (a2 : Int) : f22 n (a0, a1, a2) =
  Option.bind (loopT n (fun (self1 : (List (Int × Int)) × Int → Option ((List (Int × Int)))) (x0 : (List (Int × Int)) × Int) =>
    bif decide (x0.2 < (a1.length : Int)) then
     Option.bind (bnd a1.length x0.2 fun n2 =>
      Option.bind a1[n2]? fun y3 =>
      Option.bind (Option.bind (g93 (a0, y3.1, a2)) fun r4 =>
       bif r4.1 then
        Option.bind (g93 (a0, y3.2, a2)) fun r5 =>
        some r5.1
       else some false : Option (Bool)) fun x6 =>
      bif x6 then
       bif decide (x0.1.length + ([(y3.1, y3.2)]).length ≤ 4294967296) then
        some (x0.1 ++ ([(y3.1, y3.2)]))
       else none
      else some x0.1 : Option ((List (Int × Int)))) fun x7 =>
     self1 (x7, IntKind.wrap .i64 (x0.2 + (1 : Int)))
    else some x0.1) ([], (0 : Int)) : Option ((List (Int × Int)))) fun x8 =>
  some (x8, ()) := by kernel_rfl
/- laws.eqEdge -/
def c95 : TC :=
 (.seq (.rg [o1 2 (.a (.t 0)),
   o1 3 (.a (.t 1)),
   o1 4 (.lit [.b] [.bool false])])
 (.seq (.seq (.rg [o1 5 (.idx .nil),
   o1 6 (.load 2 [] 0 (.t 5) 1 false),
   o1 7 (.idx .nil),
   o1 8 (.load 3 [] 0 (.t 7) 1 false),
   o1 9 (.data (.bin .neq) [.t 6, .t 8])])
 (.cond (.t 9)
  (.seq (.rg [o1 4 (.lit [.b] [.bool false])])
  .ret)
  .skip))
 (.seq (.seq (.rg [o1 10 (.idx .nil),
   o1 11 (.load 2 [] 1 (.t 10) 1 false),
   o1 12 (.idx .nil),
   o1 13 (.load 3 [] 1 (.t 12) 1 false),
   o1 14 (.data (.bin .neq) [.t 11, .t 13])])
 (.cond (.t 14)
  (.seq (.rg [o1 4 (.lit [.b] [.bool false])])
  .ret)
  .skip))
 (.seq (.rg [o1 4 (.lit [.b] [.bool true])])
 .ret))))
def s95 : Sig := ⟨[.rd true [.d, .d], .rd true [.d, .d]], (.one false [.d])⟩
noncomputable def E95 : TEnv := envOf []
noncomputable def f95 (n : Nat) : (Int × Int) × (Int × Int) → Option ((Bool) × (Unit)) := runFn n E95 c95 [[.i .i64, .i .i64], [.i .i64, .i .i64]] [.b] [] [4] .no
noncomputable def g95 : (Int × Int) × (Int × Int) → Option ((Bool) × (Unit)) := f95 BIG
noncomputable def p95 : TSp := ⟨s95, [[.i .i64, .i .i64], [.i .i64, .i .i64]], [.b], [], Ou.j .no, g95⟩
theorem k95 : chkW PG E95 95 s95 (c95.ht 15) .no = some (c95.wc E95, [4]) := by kernel_rfl
theorem ok95 : p95.Ok PG 95 := mkOk (env_nil PG) k95 (by kernel_rfl)
theorem e95 (n : Nat) (a0 : Int × Int) (a1 : Int × Int) : f95 n (a0, a1) =
  bif !decide (a0.1 = a1.1) then
   some (false, ())
  else bif !decide (a0.2 = a1.2) then
   some (false, ())
  else some (true, ()) := by kernel_rfl
/- laws.eqEdgeS -/
def c28 : TC :=
 (.seq (.rg [o1 4 (.lit [.b] [.bool false])])
 (.seq (.seq (.rg [o1 6 (.copy 0),
   o1 7 (.len 6),
   o1 8 (.copy 1),
   o1 9 (.len 8),
   o1 10 (.data (.bin .neq) [.t 7, .t 9])])
 (.cond (.t 10)
  (.seq (.rg [o1 4 (.lit [.b] [.bool false])])
  .ret)
  .skip))
 (.seq (.join [] 134215728 (some [⟨4, [.b], false⟩]) (.seq (.rg [o1 5 (.lit [.i .i64] [.int .i64 (0)])])
 (.block 0 (.loop [⟨5, [.i .i64], false⟩] 134215728
  (.seq (.seq (.rg [o1 11 (.copy 5),
    o1 12 (.copy 0),
    o1 13 (.len 12),
    o1 14 (.data (.bin .lss) [.t 11, .t 13])])
  (.cond (.t 14)
   .skip
   (.exit 0)))
  (.seq (.block 1 (.seq (.rg [o1 17 (.copy 0),
    o1 18 (.copy 5),
    o1 19 (.index 17 (.t 18)),
    o1 20 (.load 17 [(0, 2)] 0 (.t 19) 2 false),
    o1 21 (.copy 1),
    o1 22 (.copy 5),
    o1 23 (.index 21 (.t 22)),
    o1 24 (.load 21 [(0, 2)] 0 (.t 23) 2 false),
    ⟨false, [], [], .call 1 95 [.t 20, .t 24] .no, [25], (some 25), none⟩,
    o1 26 (.data .not [.t 25])])
  (.cond (.t 26)
   (.seq (.rg [o1 4 (.lit [.b] [.bool false])])
   .ret)
   .skip)))
  (.rg [o1 15 (.copy 5),
    o1 16 (.data (.bin .add) [.t 15, .c (.int .i64 (1))]),
    o1 5 (.copy 16)])))))))
 (.seq (.rg [o1 4 (.lit [.b] [.bool true])])
 .ret))))
def s28 : Sig := ⟨[.rd false [.sl (.own none) [.d, .d]], .rd false [.sl (.own none) [.d, .d]]], (.one false [.d])⟩
noncomputable def E28 : TEnv := envOf [(95, p95)]
noncomputable def f28 (n : Nat) : (List (Int × Int)) × (List (Int × Int)) → Option ((Bool) × (Unit)) := runFn n E28 c28 [[.sl [.i .i64, .i .i64]], [.sl [.i .i64, .i .i64]]] [.b] [] [4] .no
noncomputable def g28 : (List (Int × Int)) × (List (Int × Int)) → Option ((Bool) × (Unit)) := f28 BIG
noncomputable def p28 : TSp := ⟨s28, [[.sl [.i .i64, .i .i64]], [.sl [.i .i64, .i .i64]]], [.b], [], Ou.j .no, g28⟩
theorem k28 : chkW PG E28 28 s28 (c28.ht 27) .no = some (c28.wc E28, [4]) := by kernel_rfl
theorem ok28 : p28.Ok PG 28 := mkOk (env_cons ok95 (env_nil PG)) k28 (by kernel_rfl)
theorem e28 (n : Nat) (a0 : List (Int × Int)) (a1 : List (Int × Int)) : f28 n (a0, a1) =
  bif !decide ((a0.length : Int) = (a1.length : Int)) then
   some (false, ())
  else Option.bind (loopT n (fun (self1 : Int → Option ((Unit) ⊕ (Bool))) (x0 : Int) =>
    bif decide (x0 < (a0.length : Int)) then
     bnd a0.length x0 fun n2 =>
     Option.bind a0[n2]? fun y3 =>
     bnd a1.length x0 fun n4 =>
     Option.bind a1[n4]? fun y5 =>
     Option.bind (g95 (y3, y5)) fun r6 =>
     bif !r6.1 then
      some (Sum.inr false)
     else self1 (IntKind.wrap .i64 (x0 + (1 : Int)))
    else some (Sum.inl ())) (0 : Int) : Option ((Unit) ⊕ (Bool))) fun y => match y with
  | .inl x7 =>
   some (true, ())
  | .inr x7 =>
   some (x7, ()) := by kernel_rfl
/- laws.markIntS -/
def c30 : TC :=
 (.seq (.rg [o1 4 (.lit [.i .i64] [.int .i64 (0)])])
 (.seq (.join [⟨0, [.sl [.i .i64]], false⟩, ⟨1, [.i .i64], false⟩] 262115 none (.seq (.rg [o1 5 (.lit [.i .i64] [.int .i64 (0)])])
 (.block 0 (.loop [⟨0, [.sl [.i .i64]], false⟩, ⟨1, [.i .i64], false⟩, ⟨5, [.i .i64], false⟩] 262115
  (.seq (.seq (.rg [o1 6 (.copy 5),
    ⟨true, [], [], .det 1 (.copy 0), [7], (some 7), none⟩,
    o1 8 (.len 7),
    o1 9 (.data (.bin .lss) [.t 6, .t 8])])
  (.cond (.t 9)
   .skip
   (.exit 0)))
  (.seq (.block 1 (.seq (.rg [⟨true, [], [], .det 1 (.copy 0), [12], (some 12), none⟩,
    o1 13 (.copy 5),
    o1 14 (.copy 1),
    o1 15 (.index 12 (.t 13)),
    ⟨false, [], [], .det 1 (.store 0 [(0, 1)] 0 (.t 15) (.t 14)), [0, 7, 12], none, none⟩])
  (.rg [o1 16 (.copy 1),
    o1 17 (.data (.bin .add) [.t 16, .c (.int .i64 (1))]),
    o1 1 (.copy 17)])))
  (.rg [o1 10 (.copy 5),
    o1 11 (.data (.bin .add) [.t 10, .c (.int .i64 (1))]),
    o1 5 (.copy 11)])))))))
 (.seq (.rg [o1 18 (.copy 1),
   o1 4 (.copy 18)])
 .ret)))
def s30 : Sig := ⟨[.mt false [.sl (.own none) [.d]], .rd false [.d]], (.one false [.d])⟩
noncomputable def E30 : TEnv := envOf []
noncomputable def f30 (n : Nat) : List (Int) × Int → Option ((Int) × (List (Int))) := runFn n E30 c30 [[.sl [.i .i64]], [.i .i64]] [.i .i64] [.sl [.i .i64]] [4] (.mt 0 0 0)
noncomputable def g30 : List (Int) × Int → Option ((Int) × (List (Int))) := f30 BIG
noncomputable def p30 : TSp := ⟨s30, [[.sl [.i .i64]], [.i .i64]], [.i .i64], [.sl [.i .i64]], Ou.j (.mt 0 0 0), g30⟩
theorem k30 : chkW PG E30 30 s30 (c30.ht 19) (.mt 0 0 0) = some (c30.wc E30, [4]) := by kernel_rfl
theorem ok30 : p30.Ok PG 30 := mkOk (env_nil PG) k30 (by kernel_rfl)
theorem e30 (n : Nat) (a0 : List (Int)) (a1 : Int) : f30 n (a0, a1) =
  Option.bind (loopT n (fun (self1 : (List (Int)) × Int × Int → Option ((List (Int)) × Int)) (x0 : (List (Int)) × Int × Int) =>
    bif decide (x0.2.2 < (x0.1.length : Int)) then
     bnd x0.1.length x0.2.2 fun n2 =>
     Option.bind x0.1[n2]? fun y3 =>
     self1 (x0.1.set n2 x0.2.1, IntKind.wrap .i64 (x0.2.1 + (1 : Int)), IntKind.wrap .i64 (x0.2.2 + (1 : Int)))
    else some (x0.1, x0.2.1)) (a0, a1, (0 : Int)) : Option ((List (Int)) × Int)) fun x4 =>
  some (x4.2, x4.1) := by kernel_rfl
/- laws.markEdgeS -/
def c31 : TC :=
 (.seq (.rg [o1 4 (.lit [.i .i64] [.int .i64 (0)])])
 (.seq (.join [⟨0, [.sl [.i .i64, .i .i64]], false⟩, ⟨1, [.i .i64], false⟩] 67108835 none (.seq (.rg [o1 5 (.lit [.i .i64] [.int .i64 (0)])])
 (.block 0 (.loop [⟨0, [.sl [.i .i64, .i .i64]], false⟩, ⟨1, [.i .i64], false⟩, ⟨5, [.i .i64], false⟩] 67108835
  (.seq (.seq (.rg [o1 6 (.copy 5),
    ⟨true, [], [], .det 1 (.copy 0), [7], (some 7), none⟩,
    o1 8 (.len 7),
    o1 9 (.data (.bin .lss) [.t 6, .t 8])])
  (.cond (.t 9)
   .skip
   (.exit 0)))
  (.seq (.block 1 (.seq (.rg [⟨true, [], [], .det 1 (.copy 0), [12], (some 12), none⟩,
    o1 13 (.copy 5),
    o1 14 (.copy 1),
    o1 15 (.index 12 (.t 13)),
    o1 16 (.idx (.t 15)),
    ⟨false, [], [], .det 1 (.store 0 [(0, 2)] 0 (.t 16) (.t 14)), [0, 7, 12], none, none⟩])
  (.seq (.rg [o1 17 (.copy 1),
    o1 18 (.data (.bin .add) [.t 17, .c (.int .i64 (1))]),
    o1 1 (.copy 18)])
  (.seq (.rg [⟨true, [], [], .det 1 (.copy 0), [19], (some 19), none⟩,
    o1 20 (.copy 5),
    o1 21 (.copy 1),
    o1 22 (.index 19 (.t 20)),
    o1 23 (.idx (.t 22)),
    ⟨false, [], [], .det 1 (.store 0 [(0, 2)] 1 (.t 23) (.t 21)), [0, 19], none, none⟩])
  (.rg [o1 24 (.copy 1),
    o1 25 (.data (.bin .add) [.t 24, .c (.int .i64 (1))]),
    o1 1 (.copy 25)])))))
  (.rg [o1 10 (.copy 5),
    o1 11 (.data (.bin .add) [.t 10, .c (.int .i64 (1))]),
    o1 5 (.copy 11)])))))))
 (.seq (.rg [o1 26 (.copy 1),
   o1 4 (.copy 26)])
 .ret)))
def s31 : Sig := ⟨[.mt false [.sl (.own none) [.d, .d]], .rd false [.d]], (.one false [.d])⟩
noncomputable def E31 : TEnv := envOf []
noncomputable def f31 (n : Nat) : (List (Int × Int)) × Int → Option ((Int) × (List (Int × Int))) := runFn n E31 c31 [[.sl [.i .i64, .i .i64]], [.i .i64]] [.i .i64] [.sl [.i .i64, .i .i64]] [4] (.mt 0 0 0)
noncomputable def g31 : (List (Int × Int)) × Int → Option ((Int) × (List (Int × Int))) := f31 BIG
noncomputable def p31 : TSp := ⟨s31, [[.sl [.i .i64, .i .i64]], [.i .i64]], [.i .i64], [.sl [.i .i64, .i .i64]], Ou.j (.mt 0 0 0), g31⟩
theorem k31 : chkW PG E31 31 s31 (c31.ht 27) (.mt 0 0 0) = some (c31.wc E31, [4]) := by kernel_rfl
theorem ok31 : p31.Ok PG 31 := mkOk (env_nil PG) k31 (by kernel_rfl)
theorem e31 (n : Nat) (a0 : List (Int × Int)) (a1 : Int) : f31 n (a0, a1) =
  Option.bind (loopT n (fun (self1 : (List (Int × Int)) × Int × Int → Option ((List (Int × Int)) × Int)) (x0 : (List (Int × Int)) × Int × Int) =>
    bif decide (x0.2.2 < (x0.1.length : Int)) then
     bnd x0.1.length x0.2.2 fun n2 =>
     Option.bind x0.1[n2]? fun y3 =>
     bnd (x0.1.set n2 (x0.2.1, y3.2)).length x0.2.2 fun n4 =>
     Option.bind (x0.1.set n2 (x0.2.1, y3.2))[n4]? fun y5 =>
     self1 ((x0.1.set n2 (x0.2.1, y3.2)).set n4 (y5.1, IntKind.wrap .i64 (x0.2.1 + (1 : Int))), IntKind.wrap .i64 ((IntKind.wrap .i64 (x0.2.1 + (1 : Int))) + (1 : Int)), IntKind.wrap .i64 (x0.2.2 + (1 : Int)))
    else some (x0.1, x0.2.1)) (a0, a1, (0 : Int)) : Option ((List (Int × Int)) × Int)) fun x6 =>
  some (x6.2, x6.1) := by kernel_rfl
/- laws.heldEdgeS -/
def c32 : TC :=
 (.seq (.rg [o1 4 (.lit [.i .i64] [.int .i64 (0)])])
 (.seq (.join [⟨1, [.i .i64], false⟩] 1073741810 (some [⟨4, [.i .i64], false⟩]) (.seq (.rg [o1 5 (.lit [.i .i64] [.int .i64 (0)])])
 (.block 0 (.loop [⟨1, [.i .i64], false⟩, ⟨5, [.i .i64], false⟩] 1073741810
  (.seq (.seq (.rg [o1 6 (.copy 5),
    o1 7 (.copy 0),
    o1 8 (.len 7),
    o1 9 (.data (.bin .lss) [.t 6, .t 8])])
  (.cond (.t 9)
   .skip
   (.exit 0)))
  (.seq (.block 1 (.seq (.seq (.rg [o1 12 (.copy 0),
    o1 13 (.copy 5),
    o1 14 (.index 12 (.t 13)),
    o1 15 (.idx (.t 14)),
    o1 16 (.load 12 [(0, 2)] 0 (.t 15) 1 false),
    o1 17 (.copy 1),
    o1 18 (.data (.bin .neq) [.t 16, .t 17])])
  (.cond (.t 18)
   (.seq (.rg [o1 4 (.lit [.i .i64] [.int .i64 (-1)])])
   .ret)
   .skip))
  (.seq (.rg [o1 19 (.copy 1),
    o1 20 (.data (.bin .add) [.t 19, .c (.int .i64 (1))]),
    o1 1 (.copy 20)])
  (.seq (.seq (.rg [o1 21 (.copy 0),
    o1 22 (.copy 5),
    o1 23 (.index 21 (.t 22)),
    o1 24 (.idx (.t 23)),
    o1 25 (.load 21 [(0, 2)] 1 (.t 24) 1 false),
    o1 26 (.copy 1),
    o1 27 (.data (.bin .neq) [.t 25, .t 26])])
  (.cond (.t 27)
   (.seq (.rg [o1 4 (.lit [.i .i64] [.int .i64 (-1)])])
   .ret)
   .skip))
  (.rg [o1 28 (.copy 1),
    o1 29 (.data (.bin .add) [.t 28, .c (.int .i64 (1))]),
    o1 1 (.copy 29)])))))
  (.rg [o1 10 (.copy 5),
    o1 11 (.data (.bin .add) [.t 10, .c (.int .i64 (1))]),
    o1 5 (.copy 11)])))))))
 (.seq (.rg [o1 30 (.copy 1),
   o1 4 (.copy 30)])
 .ret)))
def s32 : Sig := ⟨[.rd false [.sl (.own none) [.d, .d]], .rd false [.d]], (.one false [.d])⟩
noncomputable def E32 : TEnv := envOf []
noncomputable def f32 (n : Nat) : (List (Int × Int)) × Int → Option ((Int) × (Unit)) := runFn n E32 c32 [[.sl [.i .i64, .i .i64]], [.i .i64]] [.i .i64] [] [4] .no
noncomputable def g32 : (List (Int × Int)) × Int → Option ((Int) × (Unit)) := f32 BIG
noncomputable def p32 : TSp := ⟨s32, [[.sl [.i .i64, .i .i64]], [.i .i64]], [.i .i64], [], Ou.j .no, g32⟩
theorem k32 : chkW PG E32 32 s32 (c32.ht 31) .no = some (c32.wc E32, [4]) := by kernel_rfl
theorem ok32 : p32.Ok PG 32 := mkOk (env_nil PG) k32 (by kernel_rfl)
theorem e32 (n : Nat) (a0 : List (Int × Int)) (a1 : Int) : f32 n (a0, a1) =
  Option.bind (loopT n (fun (self1 : Int × Int → Option ((Int) ⊕ (Int))) (x0 : Int × Int) =>
    bif decide (x0.2 < (a0.length : Int)) then
     bnd a0.length x0.2 fun n2 =>
     Option.bind a0[n2]? fun y3 =>
     bif !decide (y3.1 = x0.1) then
      some (Sum.inr (-1 : Int))
     else bnd a0.length x0.2 fun n4 =>
     Option.bind a0[n4]? fun y5 =>
     bif !decide (y5.2 = (IntKind.wrap .i64 (x0.1 + (1 : Int)))) then
      some (Sum.inr (-1 : Int))
     else self1 (IntKind.wrap .i64 ((IntKind.wrap .i64 (x0.1 + (1 : Int))) + (1 : Int)), IntKind.wrap .i64 (x0.2 + (1 : Int)))
    else some (Sum.inl x0.1)) (a1, (0 : Int)) : Option ((Int) ⊕ (Int))) fun y => match y with
  | .inl x6 =>
   some (x6, ())
  | .inr x6 =>
   some (x6, ()) := by kernel_rfl
/- laws.FnExactInside -/
def c5 : TC :=
 (.seq (.rg [o1 6 (.lit [.b] [.bool false])])
 (.seq (.seq (.rg [o1 16 (.copy 0),
   o1 17 (.len 16),
   o1 18 (.data (.bin .gtr) [.t 17, .c (.int .i64 (1048576))])])
 (.cond (.t 18)
  (.seq (.rg [o1 6 (.lit [.b] [.bool true])])
  .ret)
  .skip))
 (.seq (.rg [o1 7 (.lit [.i .i64] [.int .i64 (1048576)])])
 (.seq (.rg [o1 19 (.copy 1),
   o1 20 (.copy 7),
   ⟨false, [], [], .call 1 25 [.t 19, .t 20] .no, [21], (some 21), none⟩,
   o1 7 (.copy 21)])
 (.seq (.seq (.rg [o1 22 (.copy 7),
   o1 23 (.data (.bin .lss) [.t 22, .c (.int .i64 (0))])])
 (.cond (.t 23)
  (.seq (.rg [o1 6 (.lit [.b] [.bool true])])
  .ret)
  .skip))
 (.seq (.rg [o1 24 (.copy 0),
   ⟨false, [], [], .call 1 26 [.t 24] .no, [25], (some 25), none⟩,
   o1 26 (.copy 1),
   ⟨false, [], [], .call 1 27 [.t 26] .no, [27], (some 27), none⟩,
   o1 28 (.copy 2),
   ⟨false, [], [], .call 1 23 [.t 25, .t 27, .t 28] .no, [29], (some 29), none⟩,
   ⟨false, [], [], .det 2 (.copy 29), [8, 29], (some 8), none⟩])
 (.seq (.rg [o1 30 (.copy 0),
   ⟨false, [], [], .call 1 26 [.t 30] .no, [31], (some 31), none⟩,
   ⟨false, [], [], .det 2 (.copy 31), [9, 31], (some 9), none⟩])
 (.seq (.rg [o1 32 (.copy 1),
   ⟨false, [], [], .call 1 27 [.t 32] .no, [33], (some 33), none⟩,
   ⟨false, [], [], .det 2 (.copy 33), [10, 33], (some 10), none⟩])
 (.seq (.rg [⟨true, [], [], .det 1 (.copy 9), [34], (some 34), none⟩,
   ⟨true, [], [], .det 1 (.copy 10), [35], (some 35), none⟩,
   o1 36 (.copy 2),
   ⟨false, [], [], .call 1 22 [.t 34, .t 35, .t 36] .no, [37], (some 37), none⟩,
   ⟨false, [], [], .det 2 (.copy 37), [11, 37], (some 11), none⟩])
 (.seq (.seq (.rg [⟨true, [], [], .det 1 (.copy 11), [38], (some 38), none⟩,
   ⟨true, [], [], .det 1 (.copy 8), [39], (some 39), none⟩,
   ⟨false, [], [], .call 1 28 [.t 38, .t 39] .no, [40], (some 40), none⟩,
   o1 41 (.data .not [.t 40])])
 (.cond (.t 41)
  (.seq (.rg [o1 6 (.lit [.b] [.bool false])])
  .ret)
  .skip))
 (.seq (.seq (.rg [⟨true, [], [], .det 1 (.copy 9), [42], (some 42), none⟩,
   o1 43 (.copy 0),
   ⟨false, [], [], .call 1 26 [.t 43] .no, [44], (some 44), none⟩,
   ⟨false, [], [], .call 1 29 [.t 42, .t 44] .no, [45], (some 45), none⟩,
   o1 46 (.data .not [.t 45])])
 (.cond (.t 46)
  (.seq (.rg [o1 6 (.lit [.b] [.bool false])])
  .ret)
  .skip))
 (.seq (.seq (.rg [⟨true, [], [], .det 1 (.copy 10), [47], (some 47), none⟩,
   o1 48 (.copy 1),
   ⟨false, [], [], .call 1 27 [.t 48] .no, [49], (some 49), none⟩,
   ⟨false, [], [], .call 1 28 [.t 47, .t 49] .no, [50], (some 50), none⟩,
   o1 51 (.data .not [.t 50])])
 (.cond (.t 51)
  (.seq (.rg [o1 6 (.lit [.b] [.bool false])])
  .ret)
  .skip))
 (.seq (.rg [o1 12 (.lit [.i .i64] [.int .i64 (1)])])
 (.seq (.rg [⟨false, [], [], .det 2 (.copy 9), [52, 9, 34, 42], (some 52), none⟩,
   o1 53 (.copy 12),
   ⟨false, [], [], .call 2 30 [.t 52, .t 53] (.mt 52 [] 0 52 0), [54, 52], (some 54), none⟩,
   o1 12 (.copy 54)])
 (.seq (.rg [⟨false, [], [], .det 2 (.copy 10), [55, 10, 35, 47], (some 55), none⟩,
   o1 56 (.copy 12),
   ⟨false, [], [], .call 2 31 [.t 55, .t 56] (.mt 55 [] 0 55 0), [57, 55], (some 57), none⟩,
   o1 12 (.copy 57)])
 (.seq (.seq (.join [⟨65, [.b], false⟩] 73498745918686494720 none (.rg [o1 58 (.copy 12),
   o1 59 (.data (.bin .lss) [.t 58, .c (.int .i64 (0))]),
   o1 60 (.copy 59),
   ⟨true, [], [], .det 1 (.copy 11), [61], (some 61), some (2, false)⟩,
   ⟨true, [], [], .det 1 (.copy 8), [62], (some 62), some (2, false)⟩,
   ⟨false, [], [], .call 1 28 [.t 61, .t 62] .no, [63], (some 63), some (2, false)⟩,
   ⟨false, [], [], .det 1 (.data .not [.t 63]), [64], (some 64), some (2, false)⟩,
   ⟨false, [], [], .pick 60 (.c (.bool true)) (.t 64), [65], (some 65), none⟩]))
 (.cond (.t 65)
  (.seq (.rg [o1 6 (.lit [.b] [.bool false])])
  .ret)
  .skip))
 (.seq (.rg [o1 13 (.lit [.i .i64] [.int .i64 (1)])])
 (.seq (.rg [⟨true, [], [], .det 1 (.copy 11), [66], (some 66), none⟩,
   o1 67 (.copy 13),
   ⟨false, [], [], .call 2 31 [.t 66, .t 67] (.mt 11 [] 0 66 0), [68, 11, 38, 66], (some 68), none⟩,
   o1 13 (.copy 68)])
 (.seq (.rg [o1 14 (.lit [.i .i64] [.int .i64 (1)])])
 (.seq (.rg [⟨true, [], [], .det 1 (.copy 11), [69], (some 69), none⟩,
   o1 70 (.copy 14),
   ⟨false, [], [], .call 1 32 [.t 69, .t 70] .no, [71], (some 71), none⟩,
   o1 14 (.copy 71)])
 (.seq (.seq (.rg [o1 72 (.copy 14),
   o1 73 (.data (.bin .lss) [.t 72, .c (.int .i64 (0))])])
 (.cond (.t 73)
  (.seq (.rg [o1 6 (.lit [.b] [.bool false])])
  .ret)
  .skip))
 (.seq (.seq (.rg [o1 74 (.copy 14),
   o1 75 (.copy 13),
   o1 76 (.data (.bin .neq) [.t 74, .t 75])])
 (.cond (.t 76)
  (.seq (.rg [o1 6 (.lit [.b] [.bool false])])
  .ret)
  .skip))
 (.seq (.rg [o1 77 (.copy 0),
   ⟨false, [], [], .call 1 26 [.t 77] .no, [78], (some 78), none⟩,
   o1 79 (.copy 1),
   ⟨false, [], [], .call 1 27 [.t 79] .no, [80], (some 80), none⟩,
   o1 81 (.copy 2),
   ⟨false, [], [], .call 1 22 [.t 78, .t 80, .t 81] .no, [82], (some 82), none⟩,
   ⟨false, [], [], .det 2 (.copy 82), [15, 82], (some 15), none⟩])
 (.seq (.seq (.rg [⟨false, [], [], .det 2 (.copy 15), [83, 15], (some 83), none⟩,
   ⟨false, [], [], .det 2 (.copy 8), [84, 8, 39], (some 84), none⟩,
   ⟨false, [], [], .call 1 28 [.t 83, .t 84] .no, [85], (some 85), none⟩,
   o1 86 (.data .not [.t 85])])
 (.cond (.t 86)
  (.seq (.rg [o1 6 (.lit [.b] [.bool false])])
  .ret)
  .skip))
 (.seq (.rg [o1 14 (.lit [.i .i64] [.int .i64 (1)])])
 (.seq (.rg [⟨false, [], [], .det 2 (.copy 11), [87, 11, 69], (some 87), none⟩,
   o1 88 (.copy 14),
   ⟨false, [], [], .call 1 32 [.t 87, .t 88] .no, [89], (some 89), none⟩,
   o1 14 (.copy 89)])
 (.seq (.seq (.rg [o1 90 (.copy 14),
   o1 91 (.data (.bin .lss) [.t 90, .c (.int .i64 (0))])])
 (.cond (.t 91)
  (.seq (.rg [o1 6 (.lit [.b] [.bool false])])
  .ret)
  .skip))
 (.seq (.seq (.rg [o1 92 (.copy 14),
   o1 93 (.copy 13),
   o1 94 (.data (.bin .neq) [.t 92, .t 93])])
 (.cond (.t 94)
  (.seq (.rg [o1 6 (.lit [.b] [.bool false])])
  .ret)
  .skip))
 (.seq (.rg [o1 6 (.lit [.b] [.bool true])])
 .ret)))))))))))))))))))))))))))))
def s5 : Sig := ⟨[.rd false [.sl (.own none) [.d]], .rd false [.sl (.own none) [.d, .d]], .rd false [.d]], (.one false [.d])⟩
noncomputable def E5 : TEnv := envOf [(25, p25), (26, p26), (27, p27), (23, p23), (22, p22), (28, p28), (29, p29), (30, p30), (31, p31), (32, p32)]
noncomputable def f5 (n : Nat) : List (Int) × (List (Int × Int)) × Int → Option ((Bool) × (Unit)) := runFn n E5 c5 [[.sl [.i .i64]], [.sl [.i .i64, .i .i64]], [.i .i64]] [.b] [] [6] .no
noncomputable def g5 : List (Int) × (List (Int × Int)) × Int → Option ((Bool) × (Unit)) := f5 BIG
noncomputable def p5 : TSp := ⟨s5, [[.sl [.i .i64]], [.sl [.i .i64, .i .i64]], [.i .i64]], [.b], [], Ou.j .no, g5⟩
theorem k5 : chkW PG E5 5 s5 (c5.ht 95) .no = some (c5.wc E5, [6]) := by kernel_rfl
theorem ok5 : p5.Ok PG 5 := mkOk (env_cons ok25 (env_cons ok26 (env_cons ok27 (env_cons ok23 (env_cons ok22 (env_cons ok28 (env_cons ok29 (env_cons ok30 (env_cons ok31 (env_cons ok32 (env_nil PG))))))))))) k5 (by kernel_rfl)
theorem e5 (n : Nat) (a0 : List (Int)) (a1 : List (Int × Int)) (a2 : Int) : f5 n (a0, a1, a2) =
  bif decide ((1048576 : Int) < (a0.length : Int)) then
   some (true, ())
  else Option.bind (g25 (a1, (1048576 : Int))) fun r0 =>
  bif decide (r0.1 < (0 : Int)) then
   some (true, ())
  else Option.bind (g26 a0) fun r1 =>
  Option.bind (g27 a1) fun r2 =>
  Option.bind (g23 (r1.1, r2.1, a2)) fun r3 =>
  Option.bind (g26 a0) fun r4 =>
  Option.bind (g27 a1) fun r5 =>
  Option.bind (g22 (r4.1, r5.1, a2)) fun r6 =>
  Option.bind (g28 (r6.1, r3.1)) fun r7 =>
  bif !r7.1 then
   some (false, ())
  else Option.bind (g26 a0) fun r8 =>
  Option.bind (g29 (r4.1, r8.1)) fun r9 =>
  bif !r9.1 then
   some (false, ())
  else Option.bind (g27 a1) fun r10 =>
  Option.bind (g28 (r5.1, r10.1)) fun r11 =>
  bif !r11.1 then
   some (false, ())
  else Option.bind (g30 (r4.1, (1 : Int))) fun r12 =>
  Option.bind (g31 (r5.1, r12.1)) fun r13 =>
  Option.bind (bif decide (r13.1 < (0 : Int)) then
    some true
   else Option.bind (g28 (r6.1, r3.1)) fun r14 =>
   some !r14.1 : Option (Bool)) fun x15 =>
  bif x15 then
   some (false, ())
  else Option.bind (g31 (r6.1, (1 : Int))) fun r16 =>
  Option.bind (g32 (r16.2, (1 : Int))) fun r17 =>
  bif decide (r17.1 < (0 : Int)) then
   some (false, ())
  else bif !decide (r17.1 = r16.1) then
   some (false, ())
  else Option.bind (g26 a0) fun r18 =>
  Option.bind (g27 a1) fun r19 =>
  Option.bind (g22 (r18.1, r19.1, a2)) fun r20 =>
  Option.bind (g28 (r20.1, r3.1)) fun r21 =>
  bif !r21.1 then
   some (false, ())
  else Option.bind (g32 (r16.2, (1 : Int))) fun r22 =>
  bif decide (r22.1 < (0 : Int)) then
   some (false, ())
  else bif !decide (r22.1 = r16.1) then
   some (false, ())
  else some (true, ()) := by kernel_rfl
end Go.Fw

namespace Go.Fw

abbrev Ed := Int × Int

theorem h25 (a : List Ed) (l : Int) (hl : 0 ≤ l) (hl' : l ≤ 1048576) (ha : a.length ≤ maxLen) : g25 (a, l) = some (if (a.length : Int) ≤ l then l - a.length else -1, ()) := by
  have hm : maxLen = 9223372036854775807 := by decide
  show f25 BIG (a, l) = _
  rw [e25, wr (by omega) (by omega)]
  by_cases h : (a.length : Int) ≤ l
  · rw [if_pos h, decide_eq_false (by omega), cond_false]
  · rw [if_neg h, decide_eq_true (by omega), cond_true]

theorem h94 (a : Ed) : g94 a = some (a, ()) := e94 BIG a

theorem h27 (a : List Ed) (ha : a.length ≤ 1048576) : g27 a = some (a, ()) := by
  have hm : maxLen = 9223372036854775807 := by decide
  show f27 BIG a = _
  rw [e27, decide_eq_true (by omega), cond_true, decide_eq_true (by simp; omega), cond_true]
  simp only [Int.toNat_natCast]
  rw [cpLoop a (by omega)]
  · rfl
  · intro self out i y hl hy
    have hi := (List.getElem?_eq_some_iff.1 hy).1
    simp only [show ((i : Int) < (a.length : Int)) from by omega, decide_true, cond_true]
    rw [bnd_nat hi, hy, Option.bind_some, h94, Option.bind_some, bnd_nat (by omega), List.getElem?_eq_getElem (by omega), Option.bind_some, wr1 (by omega)]
  · intro self out hl
    simp

theorem h95 (a b : Ed) : g95 (a, b) = some (decide (a = b), ()) := by
  show f95 BIG _ = _
  rw [e95]
  obtain ⟨a1, a2⟩ := a
  obtain ⟨b1, b2⟩ := b
  by_cases h1 : a1 = b1 <;> by_cases h2 : a2 = b2 <;> simp [h1, h2]

theorem h28 (a b : List Ed) (ha : a.length ≤ maxLen) : g28 (a, b) = some (decide (a = b), ()) := by
  show f28 BIG _ = _
  rw [e28]
  by_cases hl : a.length = b.length
  · rw [decide_eq_true (by omega), Bool.not_true, cond_false, eqLoop a b ha hl false]
    · by_cases h : a = b <;> simp [h]
    · intro self i x y hx hy
      have hi := (List.getElem?_eq_some_iff.1 hx).1
      simp only [show ((i : Int) < (a.length : Int)) from by omega, decide_true, cond_true]
      rw [bnd_nat hi, hx, Option.bind_some, bnd_nat (by omega), hy, Option.bind_some, h95, Option.bind_some, wr1 (by omega)]
      by_cases h : x = y <;> simp [h]
    · intro self
      simp
  · rw [decide_eq_false (by omega), Bool.not_false, cond_true, decide_eq_false (fun h => hl (by rw [h]))]

theorem h30 (a : List Int) (ha : a.length ≤ 1048576) : ∃ t, t.length = a.length ∧ g30 (a, 1) = some (1 + (a.length : Int), t) := by
  have hm : maxLen = 9223372036854775807 := by decide
  refine ⟨(List.range a.length).map fun (i : Nat) => 1 + (i : Int), by simp, ?_⟩
  show f30 BIG _ = _
  rw [e30]
  have := markLoop a ((List.range a.length).map fun (i : Nat) => 1 + (i : Int)) (by simp) (by omega) (fun i => 1 + (i : Int)) (F := fun (self1 : (List (Int)) × Int × Int → Option ((List (Int)) × Int)) (x0 : (List (Int)) × Int × Int) =>
    bif decide (x0.2.2 < (x0.1.length : Int)) then
     bnd x0.1.length x0.2.2 fun n2 =>
     Option.bind x0.1[n2]? fun y3 =>
     self1 (x0.1.set n2 x0.2.1, IntKind.wrap .i64 (x0.2.1 + (1 : Int)), IntKind.wrap .i64 (x0.2.2 + (1 : Int)))
    else some (x0.1, x0.2.1)) ?_ ?_
  · simp only [Int.natCast_zero, Int.add_zero] at this
    rw [this]
    rfl
  · intro self out i y z hi hl hy _ hz
    simp only [List.getElem?_map, List.getElem?_range hi, Option.map_some, Option.some.injEq] at hz
    subst hz
    simp only [show ((i : Int) < (out.length : Int)) from by omega, decide_true, cond_true]
    rw [bnd_nat (by omega), hy, Option.bind_some, wr1 (by omega), wr (by omega) (by omega)]
    congr 2
    all_goals omega
  · intro self out hl
    simp [hl]

def edM (k : Int) (n : Nat) : List Ed := (List.range n).map fun (i : Nat) => (k + 2 * (i : Int), k + 2 * (i : Int) + 1)
theorem edM_len (k : Int) (n : Nat) : (edM k n).length = n := by simp [edM]
theorem edM_get {k : Int} {n i : Nat} {z : Ed} (h : (edM k n)[i]? = some z) : i < n ∧ z = (k + 2 * (i : Int), k + 2 * (i : Int) + 1) := by
  have hi := (List.getElem?_eq_some_iff.1 h).1
  rw [edM_len] at hi
  refine ⟨hi, ?_⟩
  simp only [edM, List.getElem?_map, List.getElem?_range hi, Option.map_some, Option.some.injEq] at h
  exact h.symm

theorem h31 (a : List Ed) (k : Int) (hk : 0 ≤ k) (hk' : k ≤ 4294967296) (ha : a.length ≤ 4294967296) : g31 (a, k) = some (k + 2 * (a.length : Int), edM k a.length) := by
  have hm : maxLen = 9223372036854775807 := by decide
  show f31 BIG _ = _
  rw [e31]
  have := markLoop a (edM k a.length) (edM_len _ _) (by omega) (fun i => k + 2 * (i : Int)) (F := fun (self1 : (List (Int × Int)) × Int × Int → Option ((List (Int × Int)) × Int)) (x0 : (List (Int × Int)) × Int × Int) =>
    bif decide (x0.2.2 < (x0.1.length : Int)) then
     bnd x0.1.length x0.2.2 fun n2 =>
     Option.bind x0.1[n2]? fun y3 =>
     bnd (x0.1.set n2 (x0.2.1, y3.2)).length x0.2.2 fun n4 =>
     Option.bind (x0.1.set n2 (x0.2.1, y3.2))[n4]? fun y5 =>
     self1 ((x0.1.set n2 (x0.2.1, y3.2)).set n4 (y5.1, IntKind.wrap .i64 (x0.2.1 + (1 : Int))), IntKind.wrap .i64 ((IntKind.wrap .i64 (x0.2.1 + (1 : Int))) + (1 : Int)), IntKind.wrap .i64 (x0.2.2 + (1 : Int)))
    else some (x0.1, x0.2.1)) ?_ ?_
  · simp only [Int.natCast_zero, Int.mul_zero, Int.add_zero] at this
    rw [this]
    rfl
  · intro self out i y z hi hl hy _ hz
    obtain ⟨_, rfl⟩ := edM_get hz
    simp only [show ((i : Int) < (out.length : Int)) from by omega, decide_true, cond_true]
    rw [bnd_nat (by omega), hy, Option.bind_some, bnd_nat (by simp; omega), List.getElem?_set_self (by omega), Option.bind_some, List.set_set, wr1 (by omega), wr (n := k + 2 * (i : Int) + 1) (by omega) (by omega), wr (by omega) (by omega)]
    congr 2
    simp only [Prod.mk.injEq, and_true]
    omega
  · intro self out hl
    simp [hl]

theorem h32 (n : Nat) (k : Int) (hk : 0 ≤ k) (hk' : k ≤ 4294967296) (hn : n ≤ 4294967296) : g32 (edM k n, k) = some (k + 2 * (n : Int), ()) := by
  have hm : maxLen = 9223372036854775807 := by decide
  show f32 BIG _ = _
  rw [e32, foldLoop (edM k n) (by rw [edM_len]; omega) (fun i (c : Int) => c = k + 2 * (i : Int)) (fun c _ => c + 2) Sum.inl (by simp) (fun i s y _ h => by rw [h]; simp; omega)]
  · have : ∀ (l : List Ed) (c : Int), l.foldl (fun c _ => c + 2) c = c + 2 * (l.length : Int) := by
      intro l
      induction l with
      | nil => simp
      | cons y l ih => intro c; rw [List.foldl_cons, ih]; simp; omega
    rw [this, edM_len]
    rfl
  · intro self s i y hy hs
    obtain ⟨hi, rfl⟩ := edM_get hy
    subst hs
    rw [edM_len]
    simp only [show ((i : Int) < (n : Int)) from by omega, decide_true, cond_true]
    rw [bnd_nat hi, hy, Option.bind_some]
    simp only [decide_true, Bool.not_true, cond_false]
    rw [bnd_nat hi, hy, Option.bind_some, wr1 (by omega), wr (n := k + 2 * (i : Int) + 1) (by omega) (by omega), wr (by omega) (by omega)]
    simp only [decide_true, Bool.not_true, cond_false]
    congr 2
    omega
  · intro self s hs
    simp

def insP (own : List Int) (s : Int) (y : Ed) : Bool := (decide (0 ≤ y.1) && decide (y.1 < own.length) && decide (own[y.1.toNat]? = some s)) && (decide (0 ≤ y.2) && decide (y.2 < own.length) && decide (own[y.2.toNat]? = some s))

theorem h93 (own : List Int) (h : own.length ≤ 1048576) (v s : Int) : g93 (own, v, s) = some (decide (0 ≤ v) && decide (v < own.length) && decide (own[v.toNat]? = some s), ()) := by
  show f93 BIG _ = _
  rw [e93, h84, Option.bind_some, wr (by omega) (by omega)]
  by_cases h0 : 0 ≤ v
  · by_cases h1 : v < own.length
    · have hi : v.toNat < own.length := by omega
      rw [decide_eq_true h0, decide_eq_true h1, decide_eq_true (by omega)]
      simp only [Bool.and_self, cond_true]
      rw [bnd_ok h0 h1, List.getElem?_eq_getElem hi]
      simp
    · rw [decide_eq_true h0, decide_eq_false h1, decide_eq_false (by omega)]
      rfl
  · rw [decide_eq_false h0]
    rfl

theorem foldl_filter {α : Type} (p : α → Bool) : ∀ (l : List α) (s : List α), l.foldl (fun s y => if p y then s ++ [y] else s) s = s ++ l.filter p
  | [], s => by simp
  | y :: l, s => by
    rw [List.foldl_cons, foldl_filter p l]
    cases h : p y <;> simp [h]

theorem h22 (own : List Int) (es : List Ed) (s : Int) (h : own.length ≤ 1048576) (he : es.length ≤ 1048576) : g22 (own, es, s) = some (es.filter (insP own s), ()) := by
  have hm : maxLen = 9223372036854775807 := by decide
  show f22 BIG _ = _
  rw [e22, foldLoop es (by omega) (fun i (c : List Ed) => c.length ≤ i) (fun c y => if insP own s y then c ++ [y] else c) id (by simp) (fun i c y _ (h : c.length ≤ i) => by show List.length (if _ then _ else _) ≤ _; split <;> (try simp) <;> omega)]
  · rw [foldl_filter]; rfl
  · intro self c i y hy (hc : c.length ≤ i)
    have hi := (List.getElem?_eq_some_iff.1 hy).1
    simp only [show ((i : Int) < (es.length : Int)) from by omega, decide_true, cond_true]
    rw [bnd_nat hi, hy, Option.bind_some, h93 _ h, Option.bind_some, h93 _ h, wr1 (by omega)]
    unfold insP
    cases decide (0 ≤ y.1) && decide (y.1 < own.length) && decide (own[y.1.toNat]? = some s) <;> cases decide (0 ≤ y.2) && decide (y.2 < own.length) && decide (own[y.2.toNat]? = some s) <;> simp [show c.length + 1 ≤ 4294967296 from by omega]
  · intro self c hc
    simp

theorem h23 (own : List Int) (es : List Ed) (s : Int) (h : own.length ≤ 1048576) (he : es.length ≤ 1048576) : g23 (own, es, s) = some (es.filter (insP own s), ()) := by
  have hm : maxLen = 9223372036854775807 := by decide
  show f23 BIG _ = _
  rw [e23, foldLoop es (by omega) (fun i (c : List Ed) => c.length ≤ i) (fun c y => if insP own s y then c ++ [y] else c) id (by simp) (fun i c y _ (h : c.length ≤ i) => by show List.length (if _ then _ else _) ≤ _; split <;> (try simp) <;> omega)]
  · rw [foldl_filter]; rfl
  · intro self c i y hy (hc : c.length ≤ i)
    have hi := (List.getElem?_eq_some_iff.1 hy).1
    simp only [show ((i : Int) < (es.length : Int)) from by omega, decide_true, cond_true]
    rw [bnd_nat hi, hy, Option.bind_some, h82, Option.bind_some, h82, Option.bind_some, wr1 (by omega), wr (by omega) (by omega)]
    unfold insP
    by_cases a1 : 0 ≤ y.1
    · by_cases a2 : y.1 < own.length
      · by_cases b1 : 0 ≤ y.2
        · by_cases b2 : y.2 < own.length
          · have k1 : y.1.toNat < own.length := by omega
            have k2 : y.2.toNat < own.length := by omega
            rw [bnd_ok a1 a2, bnd_ok b1 b2, List.getElem?_eq_getElem k1, List.getElem?_eq_getElem k2]
            by_cases c1 : own[y.1.toNat] = s <;> by_cases c2 : own[y.2.toNat] = s <;> simp [a1, a2, b1, b2, c1, c2, show y.1 ≤ (own.length : Int) - 1 from by omega, show y.2 ≤ (own.length : Int) - 1 from by omega, show c.length + 1 ≤ 4294967296 from by omega]
          · have : ¬ y.2 ≤ (own.length : Int) - 1 := by omega
            simp [a1, a2, b1, b2, this]
        · simp [a1, a2, b1]
      · have : ¬ y.1 ≤ (own.length : Int) - 1 := by omega
        simp [a1, a2, this]
    · simp [a1]
  · intro self c hc
    simp

theorem law5 (own : List Int) (es : List Ed) (s : Int) (h1 : own.length ≤ maxLen) (h2 : es.length ≤ maxLen) : g5 (own, es, s) = some (true, ()) := by
  show f5 BIG _ = _
  have hm : maxLen = 9223372036854775807 := by decide
  rw [e5]
  by_cases ho : own.length ≤ 1048576
  · rw [decide_eq_false (by omega), cond_false, h25 es _ (by omega) (by omega) h2, Option.bind_some]
    by_cases he : es.length ≤ 1048576
    · rw [if_pos (by omega), decide_eq_false (by simp; omega), cond_false]
      have hf : (es.filter (insP own s)).length ≤ 1048576 := Nat.le_trans (List.length_filter_le _ _) he
      obtain ⟨t, ht, h30'⟩ := h30 own ho
      simp only [h26 own ho, h27 es he, h22 own es s ho he, h23 own es s ho he, h28 _ _ (Nat.le_trans hf (by omega)), h28 es es h2, h29 own h1, h30', Option.bind_some, decide_true, Bool.not_true, cond_false]
      rw [h31 es _ (by omega) (by omega) (by omega)]
      simp only [Option.bind_some]
      rw [decide_eq_false (by omega)]
      simp only [Option.bind_some, cond_false]
      rw [h31 _ 1 (by omega) (by omega) (by omega)]
      simp only [Option.bind_some]
      rw [h32 _ 1 (by omega) (by omega) (by omega)]
      simp only [Option.bind_some]
      rw [decide_eq_false (by omega)]
      simp
    · rw [if_neg (by omega)]; rfl
  · rw [decide_eq_true (by omega)]; rfl
end Go.Fw

/- The given functions, as what they compute; each is shown to be what the code does. -/
namespace Go.Fw
/- laws.szCallS -/
def c40 : TC :=
 (.seq (.rg [o1 4 (.lit [.i .i64] [.int .i64 (0)])])
 (.seq (.rg [o1 5 (.copy 1),
   o1 6 (.copy 0),
   o1 7 (.len 6),
   o1 8 (.data (.bin .sub) [.t 5, .t 7]),
   o1 1 (.copy 8)])
 (.seq (.seq (.rg [o1 9 (.copy 1),
   o1 10 (.data (.bin .lss) [.t 9, .c (.int .i64 (0))])])
 (.cond (.t 10)
  (.seq (.rg [o1 4 (.lit [.i .i64] [.int .i64 (-1)])])
  .ret)
  .skip))
 (.seq (.rg [o1 11 (.copy 1),
   o1 4 (.copy 11)])
 .ret))))
def s40 : Sig := ⟨[.rd false [.sl (.own none) [.d, .d, .d, .d, .d, .d, .d]], .rd false [.d]], (.one false [.d])⟩
noncomputable def E40 : TEnv := envOf []
noncomputable def f40 (n : Nat) : (List (Int × Int × Int × Int × Int × Int × Int)) × Int → Option ((Int) × (Unit)) := runFn n E40 c40 [[.sl [.i .i64, .i .i64, .i .i64, .i .i64, .i .i64, .i .i64, .i .i64]], [.i .i64]] [.i .i64] [] [4] .no
noncomputable def g40 : (List (Int × Int × Int × Int × Int × Int × Int)) × Int → Option ((Int) × (Unit)) := f40 BIG
noncomputable def p40 : TSp := ⟨s40, [[.sl [.i .i64, .i .i64, .i .i64, .i .i64, .i .i64, .i .i64, .i .i64]], [.i .i64]], [.i .i64], [], Ou.j .no, g40⟩
theorem k40 : chkW PG E40 40 s40 (c40.ht 12) .no = some (c40.wc E40, [4]) := by kernel_rfl
theorem ok40 : p40.Ok PG 40 := mkOk (env_nil PG) k40 (by kernel_rfl)
theorem e40 (n : Nat) (a0 : List (Int × Int × Int × Int × Int × Int × Int)) (a1 : Int) : f40 n (a0, a1) =
  bif decide ((IntKind.wrap .i64 (a1 - (a0.length : Int))) < (0 : Int)) then
   some ((-1 : Int), ())
  else some (IntKind.wrap .i64 (a1 - (a0.length : Int)), ()) := by kernel_rfl
/- laws.szSaidS -/
def c41 : TC :=
 (.seq (.rg [o1 4 (.lit [.i .i64] [.int .i64 (0)])])
 (.seq (.rg [o1 5 (.copy 1),
   o1 6 (.copy 0),
   o1 7 (.len 6),
   o1 8 (.data (.bin .sub) [.t 5, .t 7]),
   o1 1 (.copy 8)])
 (.seq (.seq (.rg [o1 9 (.copy 1),
   o1 10 (.data (.bin .lss) [.t 9, .c (.int .i64 (0))])])
 (.cond (.t 10)
  (.seq (.rg [o1 4 (.lit [.i .i64] [.int .i64 (-1)])])
  .ret)
  .skip))
 (.seq (.rg [o1 11 (.copy 1),
   o1 4 (.copy 11)])
 .ret))))
def s41 : Sig := ⟨[.rd false [.sl (.own none) [.d, .d, .d, .d, .d, .d]], .rd false [.d]], (.one false [.d])⟩
noncomputable def E41 : TEnv := envOf []
noncomputable def f41 (n : Nat) : (List (Int × Int × Int × Int × Int × Int)) × Int → Option ((Int) × (Unit)) := runFn n E41 c41 [[.sl [.i .i64, .i .i64, .i .i64, .i .i64, .i .i64, .i .i64]], [.i .i64]] [.i .i64] [] [4] .no
noncomputable def g41 : (List (Int × Int × Int × Int × Int × Int)) × Int → Option ((Int) × (Unit)) := f41 BIG
noncomputable def p41 : TSp := ⟨s41, [[.sl [.i .i64, .i .i64, .i .i64, .i .i64, .i .i64, .i .i64]], [.i .i64]], [.i .i64], [], Ou.j .no, g41⟩
theorem k41 : chkW PG E41 41 s41 (c41.ht 12) .no = some (c41.wc E41, [4]) := by kernel_rfl
theorem ok41 : p41.Ok PG 41 := mkOk (env_nil PG) k41 (by kernel_rfl)
theorem e41 (n : Nat) (a0 : List (Int × Int × Int × Int × Int × Int)) (a1 : Int) : f41 n (a0, a1) =
  bif decide ((IntKind.wrap .i64 (a1 - (a0.length : Int))) < (0 : Int)) then
   some ((-1 : Int), ())
  else some (IntKind.wrap .i64 (a1 - (a0.length : Int)), ()) := by kernel_rfl
/- laws.toCall -/
def c103 : TC :=
 (.seq (.rg [o1 1 (.a (.t 0)),
   ⟨false, [], [], .det 2 (.a (.c [.i .i64, .i .i64, .i .i64, .i .i64, .i .i64, .i .i64, .i .i64] [.int .i64 (0), .int .i64 (0), .int .i64 (0), .int .i64 (0), .int .i64 (0), .int .i64 (0), .int .i64 (0)])), [2, 1000000001], (some 2), none⟩])
 (.seq (.rg [⟨false, [], [], .det 2 (.a (.c [.i .i64, .i .i64, .i .i64, .i .i64, .i .i64, .i .i64, .i .i64] [.int .i64 (0), .int .i64 (0), .int .i64 (0), .int .i64 (0), .int .i64 (0), .int .i64 (0), .int .i64 (0)])), [3, 1000000001], (some 3), none⟩])
 (.seq (.rg [o1 4 (.idx .nil),
   o1 5 (.load 1 [] 0 (.t 4) 4 false),
   ⟨false, [], [], .call 1 83 [.t 5] .no, [6], (some 6), none⟩,
   o1 7 (.idx .nil),
   ⟨false, [], [], .det 1 (.store 3 [] 0 (.t 7) (.t 6)), [3], none, none⟩])
 (.seq (.rg [o1 8 (.idx .nil),
   o1 9 (.load 1 [] 4 (.t 8) 1 false),
   o1 10 (.idx .nil),
   ⟨false, [], [], .det 1 (.store 3 [] 4 (.t 10) (.t 9)), [3], none, none⟩])
 (.seq (.rg [o1 11 (.idx .nil),
   o1 12 (.load 1 [] 5 (.t 11) 1 false),
   o1 13 (.idx .nil),
   ⟨false, [], [], .det 1 (.store 3 [] 5 (.t 13) (.t 12)), [3], none, none⟩])
 (.seq (.rg [o1 14 (.idx .nil),
   o1 15 (.load 1 [] 6 (.t 14) 1 false),
   o1 16 (.idx .nil),
   ⟨false, [], [], .det 1 (.store 3 [] 6 (.t 16) (.t 15)), [3], none, none⟩])
 (.seq (.rg [o1 17 (.load 3 [] 0 .nil 7 false),
   ⟨false, [], [], .det 1 (.store 2 [] 0 .nil (.t 17)), [2], none, none⟩])
 .ret)))))))
def s103 : Sig := ⟨[.rd true [.d, .d, .d, .d, .d, .d, .d]], (.one true [.d, .d, .d, .d, .d, .d, .d])⟩
noncomputable def E103 : TEnv := envOf [(83, p83)]
noncomputable def f103 (n : Nat) : (Int × Int × Int × Int × Int × Int × Int) → Option ((Int × Int × Int × Int × Int × Int × Int) × (Unit)) := runFn n E103 c103 [[.i .i64, .i .i64, .i .i64, .i .i64, .i .i64, .i .i64, .i .i64]] [.i .i64, .i .i64, .i .i64, .i .i64, .i .i64, .i .i64, .i .i64] [] [2] .no
noncomputable def g103 : (Int × Int × Int × Int × Int × Int × Int) → Option ((Int × Int × Int × Int × Int × Int × Int) × (Unit)) := f103 BIG
noncomputable def p103 : TSp := ⟨s103, [[.i .i64, .i .i64, .i .i64, .i .i64, .i .i64, .i .i64, .i .i64]], [.i .i64, .i .i64, .i .i64, .i .i64, .i .i64, .i .i64, .i .i64], [], Ou.j .no, g103⟩
theorem k103 : chkW PG E103 103 s103 (c103.ht 18) .no = some (c103.wc E103, [2]) := by kernel_rfl
theorem ok103 : p103.Ok PG 103 := mkOk (env_cons ok83 (env_nil PG)) k103 (by kernel_rfl)
theorem e103 (n : Nat) (a0 : Int × Int × Int × Int × Int × Int × Int) : f103 n a0 =
  Option.bind (g83 (a0.1, a0.2.1, a0.2.2.1, a0.2.2.2.1)) fun r0 =>
  some ((r0.1.1, r0.1.2.1, r0.1.2.2.1, r0.1.2.2.2, a0.2.2.2.2.1, a0.2.2.2.2.2.1, a0.2.2.2.2.2.2), ()) := by kernel_rfl
/- laws.toCallS -/
def c43 : TC :=
 (.seq (.rg [o1 2 (.lit [.sl [.i .i64, .i .i64, .i .i64, .i .i64, .i .i64, .i .i64, .i .i64]] [.slice none 0 0])])
 (.seq (.rg [o1 5 (.copy 0),
   o1 6 (.len 5),
   o1 7 (.make (.t 6) [.i .i64, .i .i64, .i .i64, .i .i64, .i .i64, .i .i64, .i .i64]),
   ⟨false, [], [], .det 2 (.copy 7), [3, 7], (some 3), none⟩])
 (.seq (.join [⟨3, [.sl [.i .i64, .i .i64, .i .i64, .i .i64, .i .i64, .i .i64, .i .i64]], false⟩] 4194072 none (.seq (.rg [o1 4 (.lit [.i .i64] [.int .i64 (0)])])
 (.block 0 (.loop [⟨3, [.sl [.i .i64, .i .i64, .i .i64, .i .i64, .i .i64, .i .i64, .i .i64]], false⟩, ⟨4, [.i .i64], false⟩] 4194072
  (.seq (.seq (.rg [o1 8 (.copy 4),
    o1 9 (.copy 0),
    o1 10 (.len 9),
    o1 11 (.data (.bin .lss) [.t 8, .t 10])])
  (.cond (.t 11)
   .skip
   (.exit 0)))
  (.seq (.block 1 (.rg [⟨true, [], [], .det 1 (.copy 3), [14], (some 14), none⟩,
    o1 15 (.copy 4),
    o1 16 (.copy 0),
    o1 17 (.copy 4),
    o1 18 (.index 16 (.t 17)),
    o1 19 (.load 16 [(0, 7)] 0 (.t 18) 7 false),
    ⟨false, [], [], .call 1 103 [.t 19] .no, [20], (some 20), none⟩,
    o1 21 (.index 14 (.t 15)),
    ⟨false, [], [], .det 1 (.store 3 [(0, 7)] 0 (.t 21) (.t 20)), [3, 14], none, none⟩]))
  (.rg [o1 12 (.copy 4),
    o1 13 (.data (.bin .add) [.t 12, .c (.int .i64 (1))]),
    o1 4 (.copy 13)])))))))
 (.seq (.rg [⟨false, [], [], .det 2 (.copy 3), [22, 3], (some 22), none⟩,
   ⟨false, [], [], .det 2 (.copy 22), [2, 22], (some 2), none⟩])
 .ret))))
def s43 : Sig := ⟨[.rd false [.sl (.own none) [.d, .d, .d, .d, .d, .d, .d]]], (.one false [.sl (.own none) [.d, .d, .d, .d, .d, .d, .d]])⟩
noncomputable def E43 : TEnv := envOf [(103, p103)]
noncomputable def f43 (n : Nat) : (List (Int × Int × Int × Int × Int × Int × Int)) → Option ((List (Int × Int × Int × Int × Int × Int × Int)) × (Unit)) := runFn n E43 c43 [[.sl [.i .i64, .i .i64, .i .i64, .i .i64, .i .i64, .i .i64, .i .i64]]] [.sl [.i .i64, .i .i64, .i .i64, .i .i64, .i .i64, .i .i64, .i .i64]] [] [2] .no
noncomputable def g43 : (List (Int × Int × Int × Int × Int × Int × Int)) → Option ((List (Int × Int × Int × Int × Int × Int × Int)) × (Unit)) := f43 BIG
noncomputable def p43 : TSp := ⟨s43, [[.sl [.i .i64, .i .i64, .i .i64, .i .i64, .i .i64, .i .i64, .i .i64]]], [.sl [.i .i64, .i .i64, .i .i64, .i .i64, .i .i64, .i .i64, .i .i64]], [], Ou.j .no, g43⟩
theorem k43 : chkW PG E43 43 s43 (c43.ht 23) .no = some (c43.wc E43, [2]) := by kernel_rfl
theorem ok43 : p43.Ok PG 43 := mkOk (env_cons ok103 (env_nil PG)) k43 (by kernel_rfl)
theorem e43 (n : Nat) (a0 : List (Int × Int × Int × Int × Int × Int × Int)) : f43 n a0 =
  bif decide (0 ≤ (a0.length : Int)) then
   bif decide ((Int.toNat (a0.length : Int)) ≤ 4294967296) then
    Option.bind (loopT n (fun (self1 : (List (Int × Int × Int × Int × Int × Int × Int)) × Int → Option ((List (Int × Int × Int × Int × Int × Int × Int)))) (x0 : (List (Int × Int × Int × Int × Int × Int × Int)) × Int) =>
      bif decide (x0.2 < (a0.length : Int)) then
       bnd a0.length x0.2 fun n2 =>
       Option.bind a0[n2]? fun y3 =>
       Option.bind (g103 y3) fun r4 =>
       bnd x0.1.length x0.2 fun n5 =>
       Option.bind x0.1[n5]? fun y6 =>
       self1 (x0.1.set n5 (r4.1.1, r4.1.2.1, r4.1.2.2.1, r4.1.2.2.2.1, r4.1.2.2.2.2.1, r4.1.2.2.2.2.2.1, r4.1.2.2.2.2.2.2), IntKind.wrap .i64 (x0.2 + (1 : Int)))
      else some x0.1) (List.replicate (Int.toNat (a0.length : Int)) ((0 : Int), (0 : Int), (0 : Int), (0 : Int), (0 : Int), (0 : Int), (0 : Int)), (0 : Int)) : Option ((List (Int × Int × Int × Int × Int × Int × Int)))) fun x7 =>
    some (x7, ())
   else none
  else none := by kernel_rfl
/- laws.toSaid -/
def c104 : TC :=
 (.seq (.rg [o1 1 (.a (.t 0)),
   ⟨false, [], [], .det 2 (.a (.c [.i .i64, .i .i64, .i .i64, .i .i64, .i .i64, .i .i64] [.int .i64 (0), .int .i64 (0), .int .i64 (0), .int .i64 (0), .int .i64 (0), .int .i64 (0)])), [2, 1000000001], (some 2), none⟩])
 (.seq (.rg [⟨false, [], [], .det 2 (.a (.c [.i .i64, .i .i64, .i .i64, .i .i64, .i .i64, .i .i64] [.int .i64 (0), .int .i64 (0), .int .i64 (0), .int .i64 (0), .int .i64 (0), .int .i64 (0)])), [3, 1000000001], (some 3), none⟩])
 (.seq (.rg [o1 4 (.idx .nil),
   o1 5 (.load 1 [] 0 (.t 4) 1 false),
   o1 6 (.idx .nil),
   ⟨false, [], [], .det 1 (.store 3 [] 0 (.t 6) (.t 5)), [3], none, none⟩])
 (.seq (.rg [o1 7 (.idx .nil),
   o1 8 (.load 1 [] 1 (.t 7) 4 false),
   ⟨false, [], [], .call 1 83 [.t 8] .no, [9], (some 9), none⟩,
   o1 10 (.idx .nil),
   ⟨false, [], [], .det 1 (.store 3 [] 1 (.t 10) (.t 9)), [3], none, none⟩])
 (.seq (.rg [o1 11 (.idx .nil),
   o1 12 (.load 1 [] 5 (.t 11) 1 false),
   o1 13 (.idx .nil),
   ⟨false, [], [], .det 1 (.store 3 [] 5 (.t 13) (.t 12)), [3], none, none⟩])
 (.seq (.rg [o1 14 (.load 3 [] 0 .nil 6 false),
   ⟨false, [], [], .det 1 (.store 2 [] 0 .nil (.t 14)), [2], none, none⟩])
 .ret))))))
def s104 : Sig := ⟨[.rd true [.d, .d, .d, .d, .d, .d]], (.one true [.d, .d, .d, .d, .d, .d])⟩
noncomputable def E104 : TEnv := envOf [(83, p83)]
noncomputable def f104 (n : Nat) : (Int × Int × Int × Int × Int × Int) → Option ((Int × Int × Int × Int × Int × Int) × (Unit)) := runFn n E104 c104 [[.i .i64, .i .i64, .i .i64, .i .i64, .i .i64, .i .i64]] [.i .i64, .i .i64, .i .i64, .i .i64, .i .i64, .i .i64] [] [2] .no
noncomputable def g104 : (Int × Int × Int × Int × Int × Int) → Option ((Int × Int × Int × Int × Int × Int) × (Unit)) := f104 BIG
noncomputable def p104 : TSp := ⟨s104, [[.i .i64, .i .i64, .i .i64, .i .i64, .i .i64, .i .i64]], [.i .i64, .i .i64, .i .i64, .i .i64, .i .i64, .i .i64], [], Ou.j .no, g104⟩
theorem k104 : chkW PG E104 104 s104 (c104.ht 15) .no = some (c104.wc E104, [2]) := by kernel_rfl
theorem ok104 : p104.Ok PG 104 := mkOk (env_cons ok83 (env_nil PG)) k104 (by kernel_rfl)
theorem e104 (n : Nat) (a0 : Int × Int × Int × Int × Int × Int) : f104 n a0 =
  Option.bind (g83 (a0.2.1, a0.2.2.1, a0.2.2.2.1, a0.2.2.2.2.1)) fun r0 =>
  some ((a0.1, r0.1.1, r0.1.2.1, r0.1.2.2.1, r0.1.2.2.2, a0.2.2.2.2.2), ()) := by kernel_rfl
/- laws.toSaidS -/
def c44 : TC :=
 (.seq (.rg [o1 2 (.lit [.sl [.i .i64, .i .i64, .i .i64, .i .i64, .i .i64, .i .i64]] [.slice none 0 0])])
 (.seq (.rg [o1 5 (.copy 0),
   o1 6 (.len 5),
   o1 7 (.make (.t 6) [.i .i64, .i .i64, .i .i64, .i .i64, .i .i64, .i .i64]),
   ⟨false, [], [], .det 2 (.copy 7), [3, 7], (some 3), none⟩])
 (.seq (.join [⟨3, [.sl [.i .i64, .i .i64, .i .i64, .i .i64, .i .i64, .i .i64]], false⟩] 4194072 none (.seq (.rg [o1 4 (.lit [.i .i64] [.int .i64 (0)])])
 (.block 0 (.loop [⟨3, [.sl [.i .i64, .i .i64, .i .i64, .i .i64, .i .i64, .i .i64]], false⟩, ⟨4, [.i .i64], false⟩] 4194072
  (.seq (.seq (.rg [o1 8 (.copy 4),
    o1 9 (.copy 0),
    o1 10 (.len 9),
    o1 11 (.data (.bin .lss) [.t 8, .t 10])])
  (.cond (.t 11)
   .skip
   (.exit 0)))
  (.seq (.block 1 (.rg [⟨true, [], [], .det 1 (.copy 3), [14], (some 14), none⟩,
    o1 15 (.copy 4),
    o1 16 (.copy 0),
    o1 17 (.copy 4),
    o1 18 (.index 16 (.t 17)),
    o1 19 (.load 16 [(0, 6)] 0 (.t 18) 6 false),
    ⟨false, [], [], .call 1 104 [.t 19] .no, [20], (some 20), none⟩,
    o1 21 (.index 14 (.t 15)),
    ⟨false, [], [], .det 1 (.store 3 [(0, 6)] 0 (.t 21) (.t 20)), [3, 14], none, none⟩]))
  (.rg [o1 12 (.copy 4),
    o1 13 (.data (.bin .add) [.t 12, .c (.int .i64 (1))]),
    o1 4 (.copy 13)])))))))
 (.seq (.rg [⟨false, [], [], .det 2 (.copy 3), [22, 3], (some 22), none⟩,
   ⟨false, [], [], .det 2 (.copy 22), [2, 22], (some 2), none⟩])
 .ret))))
def s44 : Sig := ⟨[.rd false [.sl (.own none) [.d, .d, .d, .d, .d, .d]]], (.one false [.sl (.own none) [.d, .d, .d, .d, .d, .d]])⟩
noncomputable def E44 : TEnv := envOf [(104, p104)]
noncomputable def f44 (n : Nat) : (List (Int × Int × Int × Int × Int × Int)) → Option ((List (Int × Int × Int × Int × Int × Int)) × (Unit)) := runFn n E44 c44 [[.sl [.i .i64, .i .i64, .i .i64, .i .i64, .i .i64, .i .i64]]] [.sl [.i .i64, .i .i64, .i .i64, .i .i64, .i .i64, .i .i64]] [] [2] .no
noncomputable def g44 : (List (Int × Int × Int × Int × Int × Int)) → Option ((List (Int × Int × Int × Int × Int × Int)) × (Unit)) := f44 BIG
noncomputable def p44 : TSp := ⟨s44, [[.sl [.i .i64, .i .i64, .i .i64, .i .i64, .i .i64, .i .i64]]], [.sl [.i .i64, .i .i64, .i .i64, .i .i64, .i .i64, .i .i64]], [], Ou.j .no, g44⟩
theorem k44 : chkW PG E44 44 s44 (c44.ht 23) .no = some (c44.wc E44, [2]) := by kernel_rfl
theorem ok44 : p44.Ok PG 44 := mkOk (env_cons ok104 (env_nil PG)) k44 (by kernel_rfl)
theorem e44 (n : Nat) (a0 : List (Int × Int × Int × Int × Int × Int)) : f44 n a0 =
  bif decide (0 ≤ (a0.length : Int)) then
   bif decide ((Int.toNat (a0.length : Int)) ≤ 4294967296) then
    Option.bind (loopT n (fun (self1 : (List (Int × Int × Int × Int × Int × Int)) × Int → Option ((List (Int × Int × Int × Int × Int × Int)))) (x0 : (List (Int × Int × Int × Int × Int × Int)) × Int) =>
      bif decide (x0.2 < (a0.length : Int)) then
       bnd a0.length x0.2 fun n2 =>
       Option.bind a0[n2]? fun y3 =>
       Option.bind (g104 y3) fun r4 =>
       bnd x0.1.length x0.2 fun n5 =>
       Option.bind x0.1[n5]? fun y6 =>
       self1 (x0.1.set n5 (r4.1.1, r4.1.2.1, r4.1.2.2.1, r4.1.2.2.2.1, r4.1.2.2.2.2.1, r4.1.2.2.2.2.2), IntKind.wrap .i64 (x0.2 + (1 : Int)))
      else some x0.1) (List.replicate (Int.toNat (a0.length : Int)) ((0 : Int), (0 : Int), (0 : Int), (0 : Int), (0 : Int), (0 : Int)), (0 : Int)) : Option ((List (Int × Int × Int × Int × Int × Int)))) fun x7 =>
    some (x7, ())
   else none
  else none := by kernel_rfl
/- spec.l15Place -/
def c102 : TC :=
 (.seq (.rg [o1 4 (.lit [.i .i64] [.int .i64 (0)])])
 (.seq (.join [] 1048560 (some [⟨4, [.i .i64], false⟩]) (.seq (.rg [o1 5 (.lit [.i .i64] [.int .i64 (0)])])
 (.block 0 (.loop [⟨5, [.i .i64], false⟩] 1048560
  (.seq (.seq (.rg [o1 6 (.copy 5),
    o1 7 (.copy 0),
    o1 8 (.len 7),
    o1 9 (.data (.bin .lss) [.t 6, .t 8])])
  (.cond (.t 9)
   .skip
   (.exit 0)))
  (.seq (.block 1 (.seq (.rg [o1 12 (.copy 0),
    o1 13 (.copy 5),
    o1 14 (.index 12 (.t 13)),
    o1 15 (.idx (.t 14)),
    o1 16 (.load 12 [(0, 6)] 0 (.t 15) 1 false),
    o1 17 (.copy 1),
    o1 18 (.data (.bin .eql) [.t 16, .t 17])])
  (.cond (.t 18)
   (.seq (.rg [o1 19 (.copy 5),
     o1 4 (.copy 19)])
   .ret)
   .skip)))
  (.rg [o1 10 (.copy 5),
    o1 11 (.data (.bin .add) [.t 10, .c (.int .i64 (1))]),
    o1 5 (.copy 11)])))))))
 (.seq (.rg [o1 4 (.lit [.i .i64] [.int .i64 (-1)])])
 .ret)))
def s102 : Sig := ⟨[.rd false [.sl (.own none) [.d, .d, .d, .d, .d, .d]], .rd false [.d]], (.one false [.d])⟩
noncomputable def E102 : TEnv := envOf []
noncomputable def f102 (n : Nat) : (List (Int × Int × Int × Int × Int × Int)) × Int → Option ((Int) × (Unit)) := runFn n E102 c102 [[.sl [.i .i64, .i .i64, .i .i64, .i .i64, .i .i64, .i .i64]], [.i .i64]] [.i .i64] [] [4] .no
noncomputable def g102 : (List (Int × Int × Int × Int × Int × Int)) × Int → Option ((Int) × (Unit)) := f102 BIG
noncomputable def p102 : TSp := ⟨s102, [[.sl [.i .i64, .i .i64, .i .i64, .i .i64, .i .i64, .i .i64]], [.i .i64]], [.i .i64], [], Ou.j .no, g102⟩
theorem k102 : chkW PG E102 102 s102 (c102.ht 20) .no = some (c102.wc E102, [4]) := by kernel_rfl
theorem ok102 : p102.Ok PG 102 := mkOk (env_nil PG) k102 (by kernel_rfl)
theorem e102 (n : Nat) (a0 : List (Int × Int × Int × Int × Int × Int)) (a1 : Int) : f102 n (a0, a1) =
  Option.bind (loopT n (fun (self1 : Int → Option ((Unit) ⊕ (Int))) (x0 : Int) =>
    bif decide (x0 < (a0.length : Int)) then
     bnd a0.length x0 fun n2 =>
     Option.bind a0[n2]? fun y3 =>
     bif decide (y3.1 = a1) then
      some (Sum.inr x0)
     else self1 (IntKind.wrap .i64 (x0 + (1 : Int)))
    else some (Sum.inl ())) (0 : Int) : Option ((Unit) ⊕ (Int))) fun y => match y with
  | .inl x4 =>
   some ((-1 : Int), ())
  | .inr x4 =>
   some (x4, ()) := by kernel_rfl
/- spec.InTime -/
def c42 : TC :=
 (.seq (.rg [o1 4 (.lit [.b] [.bool false])])
 (.seq (.join [] 1208925819614629174706160 (some [⟨4, [.b], false⟩]) (.seq (.rg [o1 5 (.lit [.i .i64] [.int .i64 (0)])])
 (.block 0 (.loop [⟨5, [.i .i64], false⟩] 1208925819614629174706160
  (.seq (.seq (.rg [o1 8 (.copy 5),
    o1 9 (.copy 0),
    o1 10 (.len 9),
    o1 11 (.data (.bin .lss) [.t 8, .t 10])])
  (.cond (.t 11)
   .skip
   (.exit 0)))
  (.seq (.join [] 1208925819614629174690000 (some [⟨4, [.b], false⟩]) (.block 1 (.seq (.seq (.rg [o1 14 (.copy 0),
    o1 15 (.copy 5),
    o1 16 (.index 14 (.t 15)),
    o1 17 (.idx (.t 16)),
    o1 18 (.load 14 [(0, 7)] 5 (.t 17) 1 false),
    o1 19 (.data (.bin .lss) [.t 18, .c (.int .i64 (0))])])
  (.cond (.t 19)
   (.exit 1)
   .skip))
  (.seq (.rg [o1 20 (.copy 1),
    o1 21 (.copy 0),
    o1 22 (.copy 5),
    o1 23 (.index 21 (.t 22)),
    o1 24 (.idx (.t 23)),
    o1 25 (.idx (.t 24)),
    o1 26 (.load 21 [(0, 7)] 0 (.t 25) 1 false),
    ⟨false, [], [], .call 1 102 [.t 20, .t 26] .no, [27], (some 27), none⟩,
    o1 6 (.copy 27)])
  (.seq (.seq (.join [⟨42, [.b], false⟩] 8795824586752 none (.rg [o1 28 (.copy 6),
    o1 29 (.data (.bin .lss) [.t 28, .c (.int .i64 (0))]),
    o1 30 (.copy 29),
    ⟨false, [], [], .det 1 (.copy 1), [31], (some 31), some (2, false)⟩,
    ⟨false, [], [], .det 1 (.copy 6), [32], (some 32), some (2, false)⟩,
    ⟨false, [], [], .det 1 (.index 31 (.t 32)), [33], (some 33), some (2, false)⟩,
    ⟨false, [], [], .det 1 (.idx (.t 33)), [34], (some 34), some (2, false)⟩,
    ⟨false, [], [], .det 1 (.load 31 [(0, 6)] 5 (.t 34) 1 false), [35], (some 35), some (2, false)⟩,
    ⟨false, [], [], .det 1 (.copy 0), [36], (some 36), some (2, false)⟩,
    ⟨false, [], [], .det 1 (.copy 5), [37], (some 37), some (2, false)⟩,
    ⟨false, [], [], .det 1 (.index 36 (.t 37)), [38], (some 38), some (2, false)⟩,
    ⟨false, [], [], .det 1 (.idx (.t 38)), [39], (some 39), some (2, false)⟩,
    ⟨false, [], [], .det 1 (.load 36 [(0, 7)] 6 (.t 39) 1 false), [40], (some 40), some (2, false)⟩,
    ⟨false, [], [], .det 1 (.data (.bin .neq) [.t 35, .t 40]), [41], (some 41), some (2, false)⟩,
    ⟨false, [], [], .pick 30 (.c (.bool true)) (.t 41), [42], (some 42), none⟩]))
  (.cond (.t 42)
   (.seq (.rg [o1 4 (.lit [.b] [.bool false])])
   .ret)
   .skip))
  (.seq (.rg [o1 7 (.lit [.i .i64] [.int .i64 (0)])])
  (.block 2 (.loop [⟨7, [.i .i64], false⟩] 1208925819605833081684112
   (.seq (.seq (.rg [o1 43 (.copy 7),
     o1 44 (.copy 0),
     o1 45 (.len 44),
     o1 46 (.data (.bin .lss) [.t 43, .t 45])])
   (.cond (.t 46)
    .skip
    (.exit 2)))
   (.seq (.join [] 1208925819051679221284880 (some [⟨4, [.b], false⟩]) (.block 3 (.seq (.join [⟨79, [.b], false⟩] 1208925819051679221284864 none (.rg [o1 49 (.copy 0),
     o1 50 (.copy 7),
     o1 51 (.index 49 (.t 50)),
     o1 52 (.idx (.t 51)),
     o1 53 (.load 49 [(0, 7)] 5 (.t 52) 1 false),
     o1 54 (.data (.bin .geq) [.t 53, .c (.int .i64 (0))]),
     o1 55 (.copy 54),
     ⟨false, [], [], .det 1 (.copy 0), [56], (some 56), some (6, true)⟩,
     ⟨false, [], [], .det 1 (.copy 7), [57], (some 57), some (6, true)⟩,
     ⟨false, [], [], .det 1 (.index 56 (.t 57)), [58], (some 58), some (6, true)⟩,
     ⟨false, [], [], .det 1 (.idx (.t 58)), [59], (some 59), some (6, true)⟩,
     ⟨false, [], [], .det 1 (.load 56 [(0, 7)] 5 (.t 59) 1 false), [60], (some 60), some (6, true)⟩,
     ⟨false, [], [], .det 1 (.copy 0), [61], (some 61), some (6, true)⟩,
     ⟨false, [], [], .det 1 (.copy 5), [62], (some 62), some (6, true)⟩,
     ⟨false, [], [], .det 1 (.index 61 (.t 62)), [63], (some 63), some (6, true)⟩,
     ⟨false, [], [], .det 1 (.idx (.t 63)), [64], (some 64), some (6, true)⟩,
     ⟨false, [], [], .det 1 (.load 61 [(0, 7)] 4 (.t 64) 1 false), [65], (some 65), some (6, true)⟩,
     ⟨false, [], [], .det 1 (.data (.bin .lss) [.t 60, .t 65]), [66], (some 66), some (6, true)⟩,
     ⟨false, [], [], .pick 55 (.t 66) (.c (.bool false)), [67], (some 67), none⟩,
     o1 68 (.copy 67),
     ⟨false, [], [], .det 1 (.copy 1), [69], (some 69), some (19, true)⟩,
     ⟨false, [], [], .det 1 (.copy 0), [70], (some 70), some (19, true)⟩,
     ⟨false, [], [], .det 1 (.copy 7), [71], (some 71), some (19, true)⟩,
     ⟨false, [], [], .det 1 (.index 70 (.t 71)), [72], (some 72), some (19, true)⟩,
     ⟨false, [], [], .det 1 (.idx (.t 72)), [73], (some 73), some (19, true)⟩,
     ⟨false, [], [], .det 1 (.idx (.t 73)), [74], (some 74), some (19, true)⟩,
     ⟨false, [], [], .det 1 (.load 70 [(0, 7)] 0 (.t 74) 1 false), [75], (some 75), some (19, true)⟩,
     ⟨false, [], [], .call 1 102 [.t 69, .t 75] .no, [76], (some 76), some (19, true)⟩,
     ⟨false, [], [], .det 1 (.copy 6), [77], (some 77), some (19, true)⟩,
     ⟨false, [], [], .det 1 (.data (.bin .geq) [.t 76, .t 77]), [78], (some 78), some (19, true)⟩,
     ⟨false, [], [], .pick 68 (.t 78) (.c (.bool false)), [79], (some 79), none⟩]))
   (.cond (.t 79)
    (.seq (.rg [o1 4 (.lit [.b] [.bool false])])
    .ret)
    .skip))))
   (.rg [o1 47 (.copy 7),
     o1 48 (.data (.bin .add) [.t 47, .c (.int .i64 (1))]),
     o1 7 (.copy 48)])))))))))))
  (.rg [o1 12 (.copy 5),
    o1 13 (.data (.bin .add) [.t 12, .c (.int .i64 (1))]),
    o1 5 (.copy 13)])))))))
 (.seq (.rg [o1 4 (.lit [.b] [.bool true])])
 .ret)))
def s42 : Sig := ⟨[.rd false [.sl (.own none) [.d, .d, .d, .d, .d, .d, .d]], .rd false [.sl (.own none) [.d, .d, .d, .d, .d, .d]]], (.one false [.d])⟩
noncomputable def E42 : TEnv := envOf [(102, p102)]
noncomputable def f42 (n : Nat) : (List (Int × Int × Int × Int × Int × Int × Int)) × (List (Int × Int × Int × Int × Int × Int)) → Option ((Bool) × (Unit)) := runFn n E42 c42 [[.sl [.i .i64, .i .i64, .i .i64, .i .i64, .i .i64, .i .i64, .i .i64]], [.sl [.i .i64, .i .i64, .i .i64, .i .i64, .i .i64, .i .i64]]] [.b] [] [4] .no
noncomputable def g42 : (List (Int × Int × Int × Int × Int × Int × Int)) × (List (Int × Int × Int × Int × Int × Int)) → Option ((Bool) × (Unit)) := f42 BIG
noncomputable def p42 : TSp := ⟨s42, [[.sl [.i .i64, .i .i64, .i .i64, .i .i64, .i .i64, .i .i64, .i .i64]], [.sl [.i .i64, .i .i64, .i .i64, .i .i64, .i .i64, .i .i64]]], [.b], [], Ou.j .no, g42⟩
theorem k42 : chkW PG E42 42 s42 (c42.ht 80) .no = some (c42.wc E42, [4]) := by kernel_rfl
theorem ok42 : p42.Ok PG 42 := mkOk (env_cons ok102 (env_nil PG)) k42 (by kernel_rfl)
theorem e42 (n : Nat) (a0 : List (Int × Int × Int × Int × Int × Int × Int)) (a1 : List (Int × Int × Int × Int × Int × Int)) : f42 n (a0, a1) =
  Option.bind (loopT n (fun (self1 : Int → Option ((Unit) ⊕ (Bool))) (x0 : Int) =>
    bif decide (x0 < (a0.length : Int)) then
     Option.bind (bnd a0.length x0 fun n2 =>
      Option.bind a0[n2]? fun y3 =>
      bif decide (y3.2.2.2.2.2.1 < (0 : Int)) then
       some (Sum.inl ())
      else bnd a0.length x0 fun n4 =>
      Option.bind a0[n4]? fun y5 =>
      Option.bind (g102 (a1, y5.1)) fun r6 =>
      Option.bind (bif decide (r6.1 < (0 : Int)) then
        some true
       else bnd a1.length r6.1 fun n7 =>
       Option.bind a1[n7]? fun y8 =>
       bnd a0.length x0 fun n9 =>
       Option.bind a0[n9]? fun y10 =>
       some (!decide (y8.2.2.2.2.2 = y10.2.2.2.2.2.2)) : Option (Bool)) fun x11 =>
      bif x11 then
       some (Sum.inr false)
      else loopT n (fun (self13 : Int → Option ((Unit) ⊕ (Bool))) (x12 : Int) =>
       bif decide (x12 < (a0.length : Int)) then
        Option.bind (Option.bind (bnd a0.length x12 fun n14 =>
          Option.bind a0[n14]? fun y15 =>
          bif decide ((0 : Int) ≤ y15.2.2.2.2.2.1) then
           bnd a0.length x12 fun n16 =>
           Option.bind a0[n16]? fun y17 =>
           bnd a0.length x0 fun n18 =>
           Option.bind a0[n18]? fun y19 =>
           bif decide (y17.2.2.2.2.2.1 < y19.2.2.2.2.1) then
            bnd a0.length x12 fun n20 =>
            Option.bind a0[n20]? fun y21 =>
            Option.bind (g102 (a1, y21.1)) fun r22 =>
            some (decide (r6.1 ≤ r22.1))
           else some false
          else some false : Option (Bool)) fun x23 =>
         bif x23 then
          some (Sum.inr false)
         else some (Sum.inl ()) : Option ((Unit) ⊕ (Bool))) fun y => match y with
        | .inl x24 =>
         self13 (IntKind.wrap .i64 (x12 + (1 : Int)))
        | .inr x24 =>
         some (Sum.inr x24)
       else some (Sum.inl ())) (0 : Int) : Option ((Unit) ⊕ (Bool))) fun y => match y with
     | .inl x25 =>
      self1 (IntKind.wrap .i64 (x0 + (1 : Int)))
     | .inr x25 =>
      some (Sum.inr x25)
    else some (Sum.inl ())) (0 : Int) : Option ((Unit) ⊕ (Bool))) fun y => match y with
  | .inl x26 =>
   some (true, ())
  | .inr x26 =>
   some (x26, ()) := by kernel_rfl
/- impl.saidAt -/
def c105 : TC :=
 (.seq (.rg [o1 4 (.lit [.i .i64] [.int .i64 (0)])])
 (.seq (.join [] 1048560 (some [⟨4, [.i .i64], false⟩]) (.seq (.rg [o1 7 (.copy 0),
   o1 8 (.len 7),
   o1 9 (.lit [.i .i64] [.int .i64 (0)])])
 (.block 0 (.loop [⟨9, [.i .i64], false⟩] 1048176
  (.seq (.rg [o1 10 (.data (.bin .lss) [.t 9, .t 8])])
  (.seq (.cond (.t 10)
   .skip
   (.exit 0))
  (.seq (.block 1 (.seq (.rg [o1 11 (.copy 9),
    o1 12 (.index 7 (.t 9)),
    o1 13 (.load 7 [(0, 6)] 0 (.t 12) 6 false),
    ⟨false, [], [], .det 2 (.a (.c [.i .i64, .i .i64, .i .i64, .i .i64, .i .i64, .i .i64] [.int .i64 (0), .int .i64 (0), .int .i64 (0), .int .i64 (0), .int .i64 (0), .int .i64 (0)])), [6, 1000000001], (some 6), none⟩,
    o1 5 (.copy 11),
    ⟨false, [], [], .det 1 (.store 6 [] 0 .nil (.t 13)), [6], none, none⟩])
  (.seq (.rg [o1 14 (.idx .nil),
    o1 15 (.load 6 [] 0 (.t 14) 1 false),
    o1 16 (.copy 1),
    o1 17 (.data (.bin .eql) [.t 15, .t 16])])
  (.cond (.t 17)
   (.seq (.rg [o1 18 (.copy 5),
     o1 4 (.copy 18)])
   .ret)
   .skip))))
  (.rg [o1 19 (.data (.bin .add) [.t 9, .c (.int .i64 (1))]),
    o1 9 (.copy 19)]))))))))
 (.seq (.rg [o1 4 (.lit [.i .i64] [.int .i64 (-1)])])
 .ret)))
def s105 : Sig := ⟨[.rd false [.sl (.own none) [.d, .d, .d, .d, .d, .d]], .rd false [.d]], (.one false [.d])⟩
noncomputable def E105 : TEnv := envOf []
noncomputable def f105 (n : Nat) : (List (Int × Int × Int × Int × Int × Int)) × Int → Option ((Int) × (Unit)) := runFn n E105 c105 [[.sl [.i .i64, .i .i64, .i .i64, .i .i64, .i .i64, .i .i64]], [.i .i64]] [.i .i64] [] [4] .no
noncomputable def g105 : (List (Int × Int × Int × Int × Int × Int)) × Int → Option ((Int) × (Unit)) := f105 BIG
noncomputable def p105 : TSp := ⟨s105, [[.sl [.i .i64, .i .i64, .i .i64, .i .i64, .i .i64, .i .i64]], [.i .i64]], [.i .i64], [], Ou.j .no, g105⟩
theorem k105 : chkW PG E105 105 s105 (c105.ht 20) .no = some (c105.wc E105, [4]) := by kernel_rfl
theorem ok105 : p105.Ok PG 105 := mkOk (env_nil PG) k105 (by kernel_rfl)
theorem e105 (n : Nat) (a0 : List (Int × Int × Int × Int × Int × Int)) (a1 : Int) : f105 n (a0, a1) =
  Option.bind (loopT n (fun (self1 : Int → Option ((Unit) ⊕ (Int))) (x0 : Int) =>
    bif decide (x0 < (a0.length : Int)) then
     bnd a0.length x0 fun n2 =>
     Option.bind a0[n2]? fun y3 =>
     bif decide (y3.1 = a1) then
      some (Sum.inr x0)
     else self1 (IntKind.wrap .i64 (x0 + (1 : Int)))
    else some (Sum.inl ())) (0 : Int) : Option ((Unit) ⊕ (Int))) fun y => match y with
  | .inl x4 =>
   some ((-1 : Int), ())
  | .inr x4 =>
   some (x4, ()) := by kernel_rfl
/- impl.InTime -/
def c45 : TC :=
 (.seq (.rg [o1 4 (.lit [.b] [.bool false])])
 (.seq (.join [] 9223372036854775504 (some [⟨4, [.b], false⟩]) (.seq (.rg [o1 10 (.copy 0),
   o1 11 (.len 10),
   o1 12 (.lit [.i .i64] [.int .i64 (0)])])
 (.block 0 (.loop [⟨12, [.i .i64], false⟩] 9223372036854772432
  (.seq (.rg [o1 13 (.data (.bin .lss) [.t 12, .t 11])])
  (.seq (.cond (.t 13)
   .skip
   (.exit 0))
  (.seq (.join [] 4611686018427372240 (some [⟨4, [.b], false⟩]) (.block 1 (.seq (.rg [o1 14 (.index 10 (.t 12)),
    o1 15 (.load 10 [(0, 7)] 0 (.t 14) 7 false),
    ⟨false, [], [], .det 2 (.a (.c [.i .i64, .i .i64, .i .i64, .i .i64, .i .i64, .i .i64, .i .i64] [.int .i64 (0), .int .i64 (0), .int .i64 (0), .int .i64 (0), .int .i64 (0), .int .i64 (0), .int .i64 (0)])), [6, 1000000001], (some 6), none⟩,
    ⟨false, [], [], .det 1 (.store 6 [] 0 .nil (.t 15)), [6], none, none⟩])
  (.seq (.seq (.rg [o1 16 (.idx .nil),
    o1 17 (.load 6 [] 5 (.t 16) 1 false),
    o1 18 (.data (.bin .lss) [.t 17, .c (.int .i64 (0))])])
  (.cond (.t 18)
   (.exit 1)
   .skip))
  (.seq (.rg [o1 19 (.copy 1),
    o1 20 (.idx .nil),
    o1 21 (.idx (.t 20)),
    o1 22 (.load 6 [] 0 (.t 21) 1 false),
    ⟨false, [], [], .call 1 105 [.t 19, .t 22] .no, [23], (some 23), none⟩,
    o1 7 (.copy 23)])
  (.seq (.seq (.join [⟨35, [.b], false⟩] 68702699520 none (.rg [o1 24 (.copy 7),
    o1 25 (.data (.bin .lss) [.t 24, .c (.int .i64 (0))]),
    o1 26 (.copy 25),
    ⟨false, [], [], .det 1 (.copy 1), [27], (some 27), some (2, false)⟩,
    ⟨false, [], [], .det 1 (.copy 7), [28], (some 28), some (2, false)⟩,
    ⟨false, [], [], .det 1 (.index 27 (.t 28)), [29], (some 29), some (2, false)⟩,
    ⟨false, [], [], .det 1 (.idx (.t 29)), [30], (some 30), some (2, false)⟩,
    ⟨false, [], [], .det 1 (.load 27 [(0, 6)] 5 (.t 30) 1 false), [31], (some 31), some (2, false)⟩,
    ⟨false, [], [], .det 1 (.idx .nil), [32], (some 32), some (2, false)⟩,
    ⟨false, [], [], .det 1 (.load 6 [] 6 (.t 32) 1 false), [33], (some 33), some (2, false)⟩,
    ⟨false, [], [], .det 1 (.data (.bin .neq) [.t 31, .t 33]), [34], (some 34), some (2, false)⟩,
    ⟨false, [], [], .pick 26 (.c (.bool true)) (.t 34), [35], (some 35), none⟩]))
  (.cond (.t 35)
   (.seq (.rg [o1 4 (.lit [.b] [.bool false])])
   .ret)
   .skip))
  (.seq (.rg [o1 36 (.copy 0),
    o1 37 (.len 36),
    o1 38 (.lit [.i .i64] [.int .i64 (0)])])
  (.block 2 (.loop [⟨38, [.i .i64], false⟩] 4611685743549481488
   (.seq (.rg [o1 39 (.data (.bin .lss) [.t 38, .t 37])])
   (.seq (.cond (.t 39)
    .skip
    (.exit 2))
   (.seq (.join [] 2305841909702066704 (some [⟨4, [.b], false⟩]) (.block 3 (.seq (.rg [o1 40 (.index 36 (.t 38)),
     o1 41 (.load 36 [(0, 7)] 0 (.t 40) 7 false),
     ⟨false, [], [], .det 2 (.a (.c [.i .i64, .i .i64, .i .i64, .i .i64, .i .i64, .i .i64, .i .i64] [.int .i64 (0), .int .i64 (0), .int .i64 (0), .int .i64 (0), .int .i64 (0), .int .i64 (0), .int .i64 (0)])), [9, 1000000001], (some 9), none⟩,
     ⟨false, [], [], .det 1 (.store 9 [] 0 .nil (.t 41)), [9], none, none⟩])
   (.seq (.join [⟨60, [.b], false⟩] 2305838611167182848 none (.rg [o1 42 (.idx .nil),
     o1 43 (.load 9 [] 5 (.t 42) 1 false),
     o1 44 (.data (.bin .geq) [.t 43, .c (.int .i64 (0))]),
     o1 45 (.copy 44),
     ⟨false, [], [], .det 1 (.idx .nil), [46], (some 46), some (3, true)⟩,
     ⟨false, [], [], .det 1 (.load 6 [] 5 (.t 46) 1 false), [47], (some 47), some (3, true)⟩,
     ⟨false, [], [], .det 1 (.idx .nil), [48], (some 48), some (3, true)⟩,
     ⟨false, [], [], .det 1 (.load 9 [] 4 (.t 48) 1 false), [49], (some 49), some (3, true)⟩,
     ⟨false, [], [], .det 1 (.data (.bin .lss) [.t 47, .t 49]), [50], (some 50), some (3, true)⟩,
     ⟨false, [], [], .pick 45 (.t 50) (.c (.bool false)), [51], (some 51), none⟩,
     o1 52 (.copy 51),
     ⟨false, [], [], .det 1 (.copy 7), [53], (some 53), some (10, true)⟩,
     ⟨false, [], [], .det 1 (.copy 1), [54], (some 54), some (10, true)⟩,
     ⟨false, [], [], .det 1 (.idx .nil), [55], (some 55), some (10, true)⟩,
     ⟨false, [], [], .det 1 (.idx (.t 55)), [56], (some 56), some (10, true)⟩,
     ⟨false, [], [], .det 1 (.load 9 [] 0 (.t 56) 1 false), [57], (some 57), some (10, true)⟩,
     ⟨false, [], [], .call 1 105 [.t 54, .t 57] .no, [58], (some 58), some (10, true)⟩,
     ⟨false, [], [], .det 1 (.data (.bin .geq) [.t 53, .t 58]), [59], (some 59), some (10, true)⟩,
     ⟨false, [], [], .pick 52 (.t 59) (.c (.bool false)), [60], (some 60), none⟩]))
   (.cond (.t 60)
    (.seq (.rg [o1 4 (.lit [.b] [.bool false])])
    .ret)
    .skip)))))
   (.rg [o1 61 (.data (.bin .add) [.t 38, .c (.int .i64 (1))]),
     o1 38 (.copy 61)])))))))))))))
  (.rg [o1 62 (.data (.bin .add) [.t 12, .c (.int .i64 (1))]),
    o1 12 (.copy 62)]))))))))
 (.seq (.rg [o1 4 (.lit [.b] [.bool true])])
 .ret)))
def s45 : Sig := ⟨[.rd false [.sl (.own none) [.d, .d, .d, .d, .d, .d, .d]], .rd false [.sl (.own none) [.d, .d, .d, .d, .d, .d]]], (.one false [.d])⟩
noncomputable def E45 : TEnv := envOf [(105, p105)]
noncomputable def f45 (n : Nat) : (List (Int × Int × Int × Int × Int × Int × Int)) × (List (Int × Int × Int × Int × Int × Int)) → Option ((Bool) × (Unit)) := runFn n E45 c45 [[.sl [.i .i64, .i .i64, .i .i64, .i .i64, .i .i64, .i .i64, .i .i64]], [.sl [.i .i64, .i .i64, .i .i64, .i .i64, .i .i64, .i .i64]]] [.b] [] [4] .no
noncomputable def g45 : (List (Int × Int × Int × Int × Int × Int × Int)) × (List (Int × Int × Int × Int × Int × Int)) → Option ((Bool) × (Unit)) := f45 BIG
noncomputable def p45 : TSp := ⟨s45, [[.sl [.i .i64, .i .i64, .i .i64, .i .i64, .i .i64, .i .i64, .i .i64]], [.sl [.i .i64, .i .i64, .i .i64, .i .i64, .i .i64, .i .i64]]], [.b], [], Ou.j .no, g45⟩
theorem k45 : chkW PG E45 45 s45 (c45.ht 63) .no = some (c45.wc E45, [4]) := by kernel_rfl
theorem ok45 : p45.Ok PG 45 := mkOk (env_cons ok105 (env_nil PG)) k45 (by kernel_rfl)
theorem e45 (n : Nat) (a0 : List (Int × Int × Int × Int × Int × Int × Int)) (a1 : List (Int × Int × Int × Int × Int × Int)) : f45 n (a0, a1) =
  Option.bind (loopT n (fun (self1 : Int → Option ((Unit) ⊕ (Bool))) (x0 : Int) =>
    bif decide (x0 < (a0.length : Int)) then
     Option.bind (bnd a0.length x0 fun n2 =>
      Option.bind a0[n2]? fun y3 =>
      bif decide (y3.2.2.2.2.2.1 < (0 : Int)) then
       some (Sum.inl ())
      else Option.bind (g105 (a1, y3.1)) fun r4 =>
      Option.bind (bif decide (r4.1 < (0 : Int)) then
        some true
       else bnd a1.length r4.1 fun n5 =>
       Option.bind a1[n5]? fun y6 =>
       some (!decide (y6.2.2.2.2.2 = y3.2.2.2.2.2.2)) : Option (Bool)) fun x7 =>
      bif x7 then
       some (Sum.inr false)
      else loopT n (fun (self9 : Int → Option ((Unit) ⊕ (Bool))) (x8 : Int) =>
       bif decide (x8 < (a0.length : Int)) then
        Option.bind (bnd a0.length x8 fun n10 =>
         Option.bind a0[n10]? fun y11 =>
         Option.bind (bif decide ((0 : Int) ≤ y11.2.2.2.2.2.1) then
           bif decide (y3.2.2.2.2.2.1 < y11.2.2.2.2.1) then
            Option.bind (g105 (a1, y11.1)) fun r12 =>
            some (decide (r12.1 ≤ r4.1))
           else some false
          else some false : Option (Bool)) fun x13 =>
         bif x13 then
          some (Sum.inr false)
         else some (Sum.inl ()) : Option ((Unit) ⊕ (Bool))) fun y => match y with
        | .inl x14 =>
         self9 (IntKind.wrap .i64 (x8 + (1 : Int)))
        | .inr x14 =>
         some (Sum.inr x14)
       else some (Sum.inl ())) (0 : Int) : Option ((Unit) ⊕ (Bool))) fun y => match y with
     | .inl x15 =>
      self1 (IntKind.wrap .i64 (x0 + (1 : Int)))
     | .inr x15 =>
      some (Sum.inr x15)
    else some (Sum.inl ())) (0 : Int) : Option ((Unit) ⊕ (Bool))) fun y => match y with
  | .inl x16 =>
   some (true, ())
  | .inr x16 =>
   some (x16, ()) := by kernel_rfl
/- laws.eqCall -/
def c106 : TC :=
 (.seq (.rg [o1 2 (.a (.t 0)),
   o1 3 (.a (.t 1)),
   o1 4 (.lit [.b] [.bool false])])
 (.seq (.seq (.rg [o1 5 (.idx .nil),
   o1 6 (.load 2 [] 0 (.t 5) 4 false),
   o1 7 (.idx .nil),
   o1 8 (.load 3 [] 0 (.t 7) 4 false),
   ⟨false, [], [], .call 1 85 [.t 6, .t 8] .no, [9], (some 9), none⟩,
   o1 10 (.data .not [.t 9])])
 (.cond (.t 10)
  (.seq (.rg [o1 4 (.lit [.b] [.bool false])])
  .ret)
  .skip))
 (.seq (.seq (.rg [o1 11 (.idx .nil),
   o1 12 (.load 2 [] 4 (.t 11) 1 false),
   o1 13 (.idx .nil),
   o1 14 (.load 3 [] 4 (.t 13) 1 false),
   o1 15 (.data (.bin .neq) [.t 12, .t 14])])
 (.cond (.t 15)
  (.seq (.rg [o1 4 (.lit [.b] [.bool false])])
  .ret)
  .skip))
 (.seq (.seq (.rg [o1 16 (.idx .nil),
   o1 17 (.load 2 [] 5 (.t 16) 1 false),
   o1 18 (.idx .nil),
   o1 19 (.load 3 [] 5 (.t 18) 1 false),
   o1 20 (.data (.bin .neq) [.t 17, .t 19])])
 (.cond (.t 20)
  (.seq (.rg [o1 4 (.lit [.b] [.bool false])])
  .ret)
  .skip))
 (.seq (.seq (.rg [o1 21 (.idx .nil),
   o1 22 (.load 2 [] 6 (.t 21) 1 false),
   o1 23 (.idx .nil),
   o1 24 (.load 3 [] 6 (.t 23) 1 false),
   o1 25 (.data (.bin .neq) [.t 22, .t 24])])
 (.cond (.t 25)
  (.seq (.rg [o1 4 (.lit [.b] [.bool false])])
  .ret)
  .skip))
 (.seq (.rg [o1 4 (.lit [.b] [.bool true])])
 .ret))))))
def s106 : Sig := ⟨[.rd true [.d, .d, .d, .d, .d, .d, .d], .rd true [.d, .d, .d, .d, .d, .d, .d]], (.one false [.d])⟩
noncomputable def E106 : TEnv := envOf [(85, p85)]
noncomputable def f106 (n : Nat) : (Int × Int × Int × Int × Int × Int × Int) × (Int × Int × Int × Int × Int × Int × Int) → Option ((Bool) × (Unit)) := runFn n E106 c106 [[.i .i64, .i .i64, .i .i64, .i .i64, .i .i64, .i .i64, .i .i64], [.i .i64, .i .i64, .i .i64, .i .i64, .i .i64, .i .i64, .i .i64]] [.b] [] [4] .no
noncomputable def g106 : (Int × Int × Int × Int × Int × Int × Int) × (Int × Int × Int × Int × Int × Int × Int) → Option ((Bool) × (Unit)) := f106 BIG
noncomputable def p106 : TSp := ⟨s106, [[.i .i64, .i .i64, .i .i64, .i .i64, .i .i64, .i .i64, .i .i64], [.i .i64, .i .i64, .i .i64, .i .i64, .i .i64, .i .i64, .i .i64]], [.b], [], Ou.j .no, g106⟩
theorem k106 : chkW PG E106 106 s106 (c106.ht 26) .no = some (c106.wc E106, [4]) := by kernel_rfl
theorem ok106 : p106.Ok PG 106 := mkOk (env_cons ok85 (env_nil PG)) k106 (by kernel_rfl)
theorem e106 (n : Nat) (a0 : Int × Int × Int × Int × Int × Int × Int) (a1 : Int × Int × Int × Int × Int × Int × Int) : f106 n (a0, a1) =
  Option.bind (g85 ((a0.1, a0.2.1, a0.2.2.1, a0.2.2.2.1), (a1.1, a1.2.1, a1.2.2.1, a1.2.2.2.1))) fun r0 =>
  bif !r0.1 then
   some (false, ())
  else bif !decide (a0.2.2.2.2.1 = a1.2.2.2.2.1) then
   some (false, ())
  else bif !decide (a0.2.2.2.2.2.1 = a1.2.2.2.2.2.1) then
   some (false, ())
  else bif !decide (a0.2.2.2.2.2.2 = a1.2.2.2.2.2.2) then
   some (false, ())
  else some (true, ()) := by kernel_rfl
/- laws.eqCallS -/
def c46 : TC :=
 (.seq (.rg [o1 4 (.lit [.b] [.bool false])])
 (.seq (.seq (.rg [o1 6 (.copy 0),
   o1 7 (.len 6),
   o1 8 (.copy 1),
   o1 9 (.len 8),
   o1 10 (.data (.bin .neq) [.t 7, .t 9])])
 (.cond (.t 10)
  (.seq (.rg [o1 4 (.lit [.b] [.bool false])])
  .ret)
  .skip))
 (.seq (.join [] 134215728 (some [⟨4, [.b], false⟩]) (.seq (.rg [o1 5 (.lit [.i .i64] [.int .i64 (0)])])
 (.block 0 (.loop [⟨5, [.i .i64], false⟩] 134215728
  (.seq (.seq (.rg [o1 11 (.copy 5),
    o1 12 (.copy 0),
    o1 13 (.len 12),
    o1 14 (.data (.bin .lss) [.t 11, .t 13])])
  (.cond (.t 14)
   .skip
   (.exit 0)))
  (.seq (.block 1 (.seq (.rg [o1 17 (.copy 0),
    o1 18 (.copy 5),
    o1 19 (.index 17 (.t 18)),
    o1 20 (.load 17 [(0, 7)] 0 (.t 19) 7 false),
    o1 21 (.copy 1),
    o1 22 (.copy 5),
    o1 23 (.index 21 (.t 22)),
    o1 24 (.load 21 [(0, 7)] 0 (.t 23) 7 false),
    ⟨false, [], [], .call 1 106 [.t 20, .t 24] .no, [25], (some 25), none⟩,
    o1 26 (.data .not [.t 25])])
  (.cond (.t 26)
   (.seq (.rg [o1 4 (.lit [.b] [.bool false])])
   .ret)
   .skip)))
  (.rg [o1 15 (.copy 5),
    o1 16 (.data (.bin .add) [.t 15, .c (.int .i64 (1))]),
    o1 5 (.copy 16)])))))))
 (.seq (.rg [o1 4 (.lit [.b] [.bool true])])
 .ret))))
def s46 : Sig := ⟨[.rd false [.sl (.own none) [.d, .d, .d, .d, .d, .d, .d]], .rd false [.sl (.own none) [.d, .d, .d, .d, .d, .d, .d]]], (.one false [.d])⟩
noncomputable def E46 : TEnv := envOf [(106, p106)]
noncomputable def f46 (n : Nat) : (List (Int × Int × Int × Int × Int × Int × Int)) × (List (Int × Int × Int × Int × Int × Int × Int)) → Option ((Bool) × (Unit)) := runFn n E46 c46 [[.sl [.i .i64, .i .i64, .i .i64, .i .i64, .i .i64, .i .i64, .i .i64]], [.sl [.i .i64, .i .i64, .i .i64, .i .i64, .i .i64, .i .i64, .i .i64]]] [.b] [] [4] .no
noncomputable def g46 : (List (Int × Int × Int × Int × Int × Int × Int)) × (List (Int × Int × Int × Int × Int × Int × Int)) → Option ((Bool) × (Unit)) := f46 BIG
noncomputable def p46 : TSp := ⟨s46, [[.sl [.i .i64, .i .i64, .i .i64, .i .i64, .i .i64, .i .i64, .i .i64]], [.sl [.i .i64, .i .i64, .i .i64, .i .i64, .i .i64, .i .i64, .i .i64]]], [.b], [], Ou.j .no, g46⟩
theorem k46 : chkW PG E46 46 s46 (c46.ht 27) .no = some (c46.wc E46, [4]) := by kernel_rfl
theorem ok46 : p46.Ok PG 46 := mkOk (env_cons ok106 (env_nil PG)) k46 (by kernel_rfl)
theorem e46 (n : Nat) (a0 : List (Int × Int × Int × Int × Int × Int × Int)) (a1 : List (Int × Int × Int × Int × Int × Int × Int)) : f46 n (a0, a1) =
  bif !decide ((a0.length : Int) = (a1.length : Int)) then
   some (false, ())
  else Option.bind (loopT n (fun (self1 : Int → Option ((Unit) ⊕ (Bool))) (x0 : Int) =>
    bif decide (x0 < (a0.length : Int)) then
     bnd a0.length x0 fun n2 =>
     Option.bind a0[n2]? fun y3 =>
     bnd a1.length x0 fun n4 =>
     Option.bind a1[n4]? fun y5 =>
     Option.bind (g106 (y3, y5)) fun r6 =>
     bif !r6.1 then
      some (Sum.inr false)
     else self1 (IntKind.wrap .i64 (x0 + (1 : Int)))
    else some (Sum.inl ())) (0 : Int) : Option ((Unit) ⊕ (Bool))) fun y => match y with
  | .inl x7 =>
   some (true, ())
  | .inr x7 =>
   some (x7, ()) := by kernel_rfl
/- laws.eqSaid -/
def c107 : TC :=
 (.seq (.rg [o1 2 (.a (.t 0)),
   o1 3 (.a (.t 1)),
   o1 4 (.lit [.b] [.bool false])])
 (.seq (.seq (.rg [o1 5 (.idx .nil),
   o1 6 (.load 2 [] 0 (.t 5) 1 false),
   o1 7 (.idx .nil),
   o1 8 (.load 3 [] 0 (.t 7) 1 false),
   o1 9 (.data (.bin .neq) [.t 6, .t 8])])
 (.cond (.t 9)
  (.seq (.rg [o1 4 (.lit [.b] [.bool false])])
  .ret)
  .skip))
 (.seq (.seq (.rg [o1 10 (.idx .nil),
   o1 11 (.load 2 [] 1 (.t 10) 4 false),
   o1 12 (.idx .nil),
   o1 13 (.load 3 [] 1 (.t 12) 4 false),
   ⟨false, [], [], .call 1 85 [.t 11, .t 13] .no, [14], (some 14), none⟩,
   o1 15 (.data .not [.t 14])])
 (.cond (.t 15)
  (.seq (.rg [o1 4 (.lit [.b] [.bool false])])
  .ret)
  .skip))
 (.seq (.seq (.rg [o1 16 (.idx .nil),
   o1 17 (.load 2 [] 5 (.t 16) 1 false),
   o1 18 (.idx .nil),
   o1 19 (.load 3 [] 5 (.t 18) 1 false),
   o1 20 (.data (.bin .neq) [.t 17, .t 19])])
 (.cond (.t 20)
  (.seq (.rg [o1 4 (.lit [.b] [.bool false])])
  .ret)
  .skip))
 (.seq (.rg [o1 4 (.lit [.b] [.bool true])])
 .ret)))))
def s107 : Sig := ⟨[.rd true [.d, .d, .d, .d, .d, .d], .rd true [.d, .d, .d, .d, .d, .d]], (.one false [.d])⟩
noncomputable def E107 : TEnv := envOf [(85, p85)]
noncomputable def f107 (n : Nat) : (Int × Int × Int × Int × Int × Int) × (Int × Int × Int × Int × Int × Int) → Option ((Bool) × (Unit)) := runFn n E107 c107 [[.i .i64, .i .i64, .i .i64, .i .i64, .i .i64, .i .i64], [.i .i64, .i .i64, .i .i64, .i .i64, .i .i64, .i .i64]] [.b] [] [4] .no
noncomputable def g107 : (Int × Int × Int × Int × Int × Int) × (Int × Int × Int × Int × Int × Int) → Option ((Bool) × (Unit)) := f107 BIG
noncomputable def p107 : TSp := ⟨s107, [[.i .i64, .i .i64, .i .i64, .i .i64, .i .i64, .i .i64], [.i .i64, .i .i64, .i .i64, .i .i64, .i .i64, .i .i64]], [.b], [], Ou.j .no, g107⟩
theorem k107 : chkW PG E107 107 s107 (c107.ht 21) .no = some (c107.wc E107, [4]) := by kernel_rfl
theorem ok107 : p107.Ok PG 107 := mkOk (env_cons ok85 (env_nil PG)) k107 (by kernel_rfl)
theorem e107 (n : Nat) (a0 : Int × Int × Int × Int × Int × Int) (a1 : Int × Int × Int × Int × Int × Int) : f107 n (a0, a1) =
  bif !decide (a0.1 = a1.1) then
   some (false, ())
  else Option.bind (g85 ((a0.2.1, a0.2.2.1, a0.2.2.2.1, a0.2.2.2.2.1), (a1.2.1, a1.2.2.1, a1.2.2.2.1, a1.2.2.2.2.1))) fun r0 =>
  bif !r0.1 then
   some (false, ())
  else bif !decide (a0.2.2.2.2.2 = a1.2.2.2.2.2) then
   some (false, ())
  else some (true, ()) := by kernel_rfl
/- laws.eqSaidS -/
def c47 : TC :=
 (.seq (.rg [o1 4 (.lit [.b] [.bool false])])
 (.seq (.seq (.rg [o1 6 (.copy 0),
   o1 7 (.len 6),
   o1 8 (.copy 1),
   o1 9 (.len 8),
   o1 10 (.data (.bin .neq) [.t 7, .t 9])])
 (.cond (.t 10)
  (.seq (.rg [o1 4 (.lit [.b] [.bool false])])
  .ret)
  .skip))
 (.seq (.join [] 134215728 (some [⟨4, [.b], false⟩]) (.seq (.rg [o1 5 (.lit [.i .i64] [.int .i64 (0)])])
 (.block 0 (.loop [⟨5, [.i .i64], false⟩] 134215728
  (.seq (.seq (.rg [o1 11 (.copy 5),
    o1 12 (.copy 0),
    o1 13 (.len 12),
    o1 14 (.data (.bin .lss) [.t 11, .t 13])])
  (.cond (.t 14)
   .skip
   (.exit 0)))
  (.seq (.block 1 (.seq (.rg [o1 17 (.copy 0),
    o1 18 (.copy 5),
    o1 19 (.index 17 (.t 18)),
    o1 20 (.load 17 [(0, 6)] 0 (.t 19) 6 false),
    o1 21 (.copy 1),
    o1 22 (.copy 5),
    o1 23 (.index 21 (.t 22)),
    o1 24 (.load 21 [(0, 6)] 0 (.t 23) 6 false),
    ⟨false, [], [], .call 1 107 [.t 20, .t 24] .no, [25], (some 25), none⟩,
    o1 26 (.data .not [.t 25])])
  (.cond (.t 26)
   (.seq (.rg [o1 4 (.lit [.b] [.bool false])])
   .ret)
   .skip)))
  (.rg [o1 15 (.copy 5),
    o1 16 (.data (.bin .add) [.t 15, .c (.int .i64 (1))]),
    o1 5 (.copy 16)])))))))
 (.seq (.rg [o1 4 (.lit [.b] [.bool true])])
 .ret))))
def s47 : Sig := ⟨[.rd false [.sl (.own none) [.d, .d, .d, .d, .d, .d]], .rd false [.sl (.own none) [.d, .d, .d, .d, .d, .d]]], (.one false [.d])⟩
noncomputable def E47 : TEnv := envOf [(107, p107)]
noncomputable def f47 (n : Nat) : (List (Int × Int × Int × Int × Int × Int)) × (List (Int × Int × Int × Int × Int × Int)) → Option ((Bool) × (Unit)) := runFn n E47 c47 [[.sl [.i .i64, .i .i64, .i .i64, .i .i64, .i .i64, .i .i64]], [.sl [.i .i64, .i .i64, .i .i64, .i .i64, .i .i64, .i .i64]]] [.b] [] [4] .no
noncomputable def g47 : (List (Int × Int × Int × Int × Int × Int)) × (List (Int × Int × Int × Int × Int × Int)) → Option ((Bool) × (Unit)) := f47 BIG
noncomputable def p47 : TSp := ⟨s47, [[.sl [.i .i64, .i .i64, .i .i64, .i .i64, .i .i64, .i .i64]], [.sl [.i .i64, .i .i64, .i .i64, .i .i64, .i .i64, .i .i64]]], [.b], [], Ou.j .no, g47⟩
theorem k47 : chkW PG E47 47 s47 (c47.ht 27) .no = some (c47.wc E47, [4]) := by kernel_rfl
theorem ok47 : p47.Ok PG 47 := mkOk (env_cons ok107 (env_nil PG)) k47 (by kernel_rfl)
theorem e47 (n : Nat) (a0 : List (Int × Int × Int × Int × Int × Int)) (a1 : List (Int × Int × Int × Int × Int × Int)) : f47 n (a0, a1) =
  bif !decide ((a0.length : Int) = (a1.length : Int)) then
   some (false, ())
  else Option.bind (loopT n (fun (self1 : Int → Option ((Unit) ⊕ (Bool))) (x0 : Int) =>
    bif decide (x0 < (a0.length : Int)) then
     bnd a0.length x0 fun n2 =>
     Option.bind a0[n2]? fun y3 =>
     bnd a1.length x0 fun n4 =>
     Option.bind a1[n4]? fun y5 =>
     Option.bind (g107 (y3, y5)) fun r6 =>
     bif !r6.1 then
      some (Sum.inr false)
     else self1 (IntKind.wrap .i64 (x0 + (1 : Int)))
    else some (Sum.inl ())) (0 : Int) : Option ((Unit) ⊕ (Bool))) fun y => match y with
  | .inl x7 =>
   some (true, ())
  | .inr x7 =>
   some (x7, ()) := by kernel_rfl
/- laws.FnExactInTime -/
def c7 : TC :=
 (.seq (.rg [o1 4 (.lit [.b] [.bool false])])
 (.seq (.rg [o1 5 (.lit [.i .i64] [.int .i64 (1048576)])])
 (.seq (.rg [o1 10 (.copy 0),
   o1 11 (.copy 5),
   ⟨false, [], [], .call 1 40 [.t 10, .t 11] .no, [12], (some 12), none⟩,
   o1 5 (.copy 12)])
 (.seq (.seq (.rg [o1 13 (.copy 5),
   o1 14 (.data (.bin .lss) [.t 13, .c (.int .i64 (0))])])
 (.cond (.t 14)
  (.seq (.rg [o1 4 (.lit [.b] [.bool true])])
  .ret)
  .skip))
 (.seq (.rg [o1 15 (.copy 1),
   o1 16 (.copy 5),
   ⟨false, [], [], .call 1 41 [.t 15, .t 16] .no, [17], (some 17), none⟩,
   o1 5 (.copy 17)])
 (.seq (.seq (.rg [o1 18 (.copy 5),
   o1 19 (.data (.bin .lss) [.t 18, .c (.int .i64 (0))])])
 (.cond (.t 19)
  (.seq (.rg [o1 4 (.lit [.b] [.bool true])])
  .ret)
  .skip))
 (.seq (.rg [o1 20 (.copy 0),
   ⟨false, [], [], .call 1 43 [.t 20] .no, [21], (some 21), none⟩,
   o1 22 (.copy 1),
   ⟨false, [], [], .call 1 44 [.t 22] .no, [23], (some 23), none⟩,
   ⟨false, [], [], .call 1 42 [.t 21, .t 23] .no, [24], (some 24), none⟩,
   o1 6 (.copy 24)])
 (.seq (.rg [o1 25 (.copy 0),
   ⟨false, [], [], .call 1 43 [.t 25] .no, [26], (some 26), none⟩,
   ⟨false, [], [], .det 2 (.copy 26), [7, 26], (some 7), none⟩])
 (.seq (.rg [o1 27 (.copy 1),
   ⟨false, [], [], .call 1 44 [.t 27] .no, [28], (some 28), none⟩,
   ⟨false, [], [], .det 2 (.copy 28), [8, 28], (some 8), none⟩])
 (.seq (.rg [⟨true, [], [], .det 1 (.copy 7), [29], (some 29), none⟩,
   ⟨true, [], [], .det 1 (.copy 8), [30], (some 30), none⟩,
   ⟨false, [], [], .call 1 45 [.t 29, .t 30] .no, [31], (some 31), none⟩,
   o1 9 (.copy 31)])
 (.seq (.seq (.rg [o1 32 (.copy 9),
   o1 33 (.copy 6),
   o1 34 (.data (.beq true) [.t 32, .t 33])])
 (.cond (.t 34)
  (.seq (.rg [o1 4 (.lit [.b] [.bool false])])
  .ret)
  .skip))
 (.seq (.seq (.rg [⟨false, [], [], .det 2 (.copy 7), [35, 7, 29], (some 35), none⟩,
   o1 36 (.copy 0),
   ⟨false, [], [], .call 1 43 [.t 36] .no, [37], (some 37), none⟩,
   ⟨false, [], [], .call 1 46 [.t 35, .t 37] .no, [38], (some 38), none⟩,
   o1 39 (.data .not [.t 38])])
 (.cond (.t 39)
  (.seq (.rg [o1 4 (.lit [.b] [.bool false])])
  .ret)
  .skip))
 (.seq (.seq (.rg [⟨false, [], [], .det 2 (.copy 8), [40, 8, 30], (some 40), none⟩,
   o1 41 (.copy 1),
   ⟨false, [], [], .call 1 44 [.t 41] .no, [42], (some 42), none⟩,
   ⟨false, [], [], .call 1 47 [.t 40, .t 42] .no, [43], (some 43), none⟩,
   o1 44 (.data .not [.t 43])])
 (.cond (.t 44)
  (.seq (.rg [o1 4 (.lit [.b] [.bool false])])
  .ret)
  .skip))
 (.seq (.rg [o1 4 (.lit [.b] [.bool true])])
 .ret))))))))))))))
def s7 : Sig := ⟨[.rd false [.sl (.own none) [.d, .d, .d, .d, .d, .d, .d]], .rd false [.sl (.own none) [.d, .d, .d, .d, .d, .d]]], (.one false [.d])⟩
noncomputable def E7 : TEnv := envOf [(40, p40), (41, p41), (43, p43), (44, p44), (42, p42), (45, p45), (46, p46), (47, p47)]
noncomputable def f7 (n : Nat) : (List (Int × Int × Int × Int × Int × Int × Int)) × (List (Int × Int × Int × Int × Int × Int)) → Option ((Bool) × (Unit)) := runFn n E7 c7 [[.sl [.i .i64, .i .i64, .i .i64, .i .i64, .i .i64, .i .i64, .i .i64]], [.sl [.i .i64, .i .i64, .i .i64, .i .i64, .i .i64, .i .i64]]] [.b] [] [4] .no
noncomputable def g7 : (List (Int × Int × Int × Int × Int × Int × Int)) × (List (Int × Int × Int × Int × Int × Int)) → Option ((Bool) × (Unit)) := f7 BIG
noncomputable def p7 : TSp := ⟨s7, [[.sl [.i .i64, .i .i64, .i .i64, .i .i64, .i .i64, .i .i64, .i .i64]], [.sl [.i .i64, .i .i64, .i .i64, .i .i64, .i .i64, .i .i64]]], [.b], [], Ou.j .no, g7⟩
theorem k7 : chkW PG E7 7 s7 (c7.ht 45) .no = some (c7.wc E7, [4]) := by kernel_rfl
theorem ok7 : p7.Ok PG 7 := mkOk (env_cons ok40 (env_cons ok41 (env_cons ok43 (env_cons ok44 (env_cons ok42 (env_cons ok45 (env_cons ok46 (env_cons ok47 (env_nil PG))))))))) k7 (by kernel_rfl)
theorem e7 (n : Nat) (a0 : List (Int × Int × Int × Int × Int × Int × Int)) (a1 : List (Int × Int × Int × Int × Int × Int)) : f7 n (a0, a1) =
  Option.bind (g40 (a0, (1048576 : Int))) fun r0 =>
  bif decide (r0.1 < (0 : Int)) then
   some (true, ())
  else Option.bind (g41 (a1, r0.1)) fun r1 =>
  bif decide (r1.1 < (0 : Int)) then
   some (true, ())
  else Option.bind (g43 a0) fun r2 =>
  Option.bind (g44 a1) fun r3 =>
  Option.bind (g42 (r2.1, r3.1)) fun r4 =>
  Option.bind (g43 a0) fun r5 =>
  Option.bind (g44 a1) fun r6 =>
  Option.bind (g45 (r5.1, r6.1)) fun r7 =>
  bif !(r7.1 == r4.1) then
   some (false, ())
  else Option.bind (g43 a0) fun r8 =>
  Option.bind (g46 (r5.1, r8.1)) fun r9 =>
  bif !r9.1 then
   some (false, ())
  else Option.bind (g44 a1) fun r10 =>
  Option.bind (g47 (r6.1, r10.1)) fun r11 =>
  bif !r11.1 then
   some (false, ())
  else some (true, ()) := by kernel_rfl
end Go.Fw

namespace Go.Fw
/-- A loop that looks for the first place of which something holds. -/
theorem findLoop {α : Type} (a : List α) (hl : a.length < 18446744073709551616) (p : α → Bool) {F : (Int → Option (Unit ⊕ Int)) → Int → Option (Unit ⊕ Int)}
    (hF : ∀ self (i : Nat) y, a[i]? = some y → F self (i : Int) = if p y then some (.inr (i : Int)) else self ((i + 1 : Nat) : Int))
    (hE : ∀ self, F self (a.length : Int) = some (.inl ())) : ∃ r, loopT BIG F 0 = some r ∧ (r = .inl () ∨ ∃ i : Nat, i < a.length ∧ r = .inr (i : Int)) := by
  refine loop_rel (F := F) (fun x => ∃ i : Nat, x = i ∧ i ≤ a.length) (fun x => a.length - x.toNat) (fun _ r => r = .inl () ∨ ∃ i : Nat, i < a.length ∧ r = .inr (i : Int)) (fun self x ⟨i, h1, h2⟩ hs => ?_) (n := BIG) (x := 0) (by simp; exact hl) ⟨0, rfl, by simp⟩
  subst h1
  by_cases hi : i < a.length
  · rw [hF self i a[i] (List.getElem?_eq_getElem hi)]
    split
    · exact ⟨_, rfl, .inr ⟨i, hi, rfl⟩⟩
    · exact hs _ ⟨i + 1, rfl, hi⟩ (by simp; omega)
  · have : i = a.length := by omega
    subst this
    exact ⟨_, hE self, .inl rfl⟩

instance : DecidableEq (Int × Int × Int × Int × Int × Int × Int) := instDecidableEqProd

theorem h40 (a : List (Int × Int × Int × Int × Int × Int × Int)) (l : Int) (hl : 0 ≤ l) (hl' : l ≤ 1048576) (ha : a.length ≤ maxLen) : g40 (a, l) = some (if (a.length : Int) ≤ l then l - a.length else -1, ()) := by
  have hm : maxLen = 9223372036854775807 := by decide
  show f40 BIG (a, l) = _
  rw [e40, wr (by omega) (by omega)]
  by_cases h : (a.length : Int) ≤ l
  · rw [if_pos h, decide_eq_false (by omega), cond_false]
  · rw [if_neg h, decide_eq_true (by omega), cond_true]

theorem h41 (a : List (Int × Int × Int × Int × Int × Int)) (l : Int) (hl : 0 ≤ l) (hl' : l ≤ 1048576) (ha : a.length ≤ maxLen) : g41 (a, l) = some (if (a.length : Int) ≤ l then l - a.length else -1, ()) := by
  have hm : maxLen = 9223372036854775807 := by decide
  show f41 BIG (a, l) = _
  rw [e41, wr (by omega) (by omega)]
  by_cases h : (a.length : Int) ≤ l
  · rw [if_pos h, decide_eq_false (by omega), cond_false]
  · rw [if_neg h, decide_eq_true (by omega), cond_true]

theorem h103 (a : Int × Int × Int × Int × Int × Int × Int) : g103 a = some (a, ()) := by
  show f103 BIG a = _
  rw [e103, h83]; rfl
theorem h104 (a : Int × Int × Int × Int × Int × Int) : g104 a = some (a, ()) := by
  show f104 BIG a = _
  rw [e104, h83]; rfl
theorem h85' (a b : Int × Int × Int × Int) : g85 (a, b) = some (decide (a = b), ()) := by
  show f85 BIG _ = _
  rw [e85]
  obtain ⟨a1, a2, a3, a4⟩ := a
  obtain ⟨b1, b2, b3, b4⟩ := b
  by_cases h1 : a1 = b1 <;> by_cases h2 : a2 = b2 <;> by_cases h3 : a3 = b3 <;> by_cases h4 : a4 = b4 <;> simp [h1, h2, h3, h4]
theorem h106 (a b : Int × Int × Int × Int × Int × Int × Int) : g106 (a, b) = some (decide (a = b), ()) := by
  show f106 BIG _ = _
  rw [e106, h85']
  obtain ⟨a1, a2, a3, a4, a5, a6, a7⟩ := a
  obtain ⟨b1, b2, b3, b4, b5, b6, b7⟩ := b
  simp only [Option.bind_some, Prod.mk.injEq]
  by_cases h1 : a1 = b1 ∧ a2 = b2 ∧ a3 = b3 ∧ a4 = b4
  · by_cases h5 : a5 = b5 <;> by_cases h6 : a6 = b6 <;> by_cases h7 : a7 = b7 <;> simp [h1, h5, h6, h7]
  · have hn : ¬(a1 = b1 ∧ a2 = b2 ∧ a3 = b3 ∧ a4 = b4 ∧ a5 = b5 ∧ a6 = b6 ∧ a7 = b7) := fun h => h1 ⟨h.1, h.2.1, h.2.2.1, h.2.2.2.1⟩
    simp only [decide_eq_false h1, decide_eq_false hn, Bool.not_false, cond_true]
theorem h107 (a b : Int × Int × Int × Int × Int × Int) : g107 (a, b) = some (decide (a = b), ()) := by
  show f107 BIG _ = _
  rw [e107, h85']
  obtain ⟨a1, a2, a3, a4, a5, a6⟩ := a
  obtain ⟨b1, b2, b3, b4, b5, b6⟩ := b
  simp only [Option.bind_some, Prod.mk.injEq]
  by_cases h0 : a1 = b1
  · by_cases h1 : a2 = b2 ∧ a3 = b3 ∧ a4 = b4 ∧ a5 = b5
    · by_cases h6 : a6 = b6 <;> simp [h0, h1, h6]
    · have hn : ¬(a1 = b1 ∧ a2 = b2 ∧ a3 = b3 ∧ a4 = b4 ∧ a5 = b5 ∧ a6 = b6) := fun h => h1 ⟨h.2.1, h.2.2.1, h.2.2.2.1, h.2.2.2.2.1⟩
      simp only [decide_eq_false h1, decide_eq_true h0, decide_eq_false hn, Bool.not_false, Bool.not_true, cond_true, cond_false]
  · have hn : ¬(a1 = b1 ∧ a2 = b2 ∧ a3 = b3 ∧ a4 = b4 ∧ a5 = b5 ∧ a6 = b6) := fun h => h0 h.1
    simp only [decide_eq_false h0, decide_eq_false hn, Bool.not_false, cond_true]

theorem h43 (a : List (Int × Int × Int × Int × Int × Int × Int)) (ha : a.length ≤ 1048576) : g43 a = some (a, ()) := by
  have hm : maxLen = 9223372036854775807 := by decide
  show f43 BIG a = _
  rw [e43, decide_eq_true (by omega), cond_true, decide_eq_true (by simp; omega), cond_true]
  simp only [Int.toNat_natCast]
  rw [cpLoop a (by omega)]
  · rfl
  · intro self out i y hl hy
    have hi := (List.getElem?_eq_some_iff.1 hy).1
    simp only [show ((i : Int) < (a.length : Int)) from by omega, decide_true, cond_true]
    rw [bnd_nat hi, hy, Option.bind_some, h103, Option.bind_some, bnd_nat (by omega), List.getElem?_eq_getElem (by omega), Option.bind_some, wr1 (by omega)]
  · intro self out hl
    simp

theorem h44 (a : List (Int × Int × Int × Int × Int × Int)) (ha : a.length ≤ 1048576) : g44 a = some (a, ()) := by
  have hm : maxLen = 9223372036854775807 := by decide
  show f44 BIG a = _
  rw [e44, decide_eq_true (by omega), cond_true, decide_eq_true (by simp; omega), cond_true]
  simp only [Int.toNat_natCast]
  rw [cpLoop a (by omega)]
  · rfl
  · intro self out i y hl hy
    have hi := (List.getElem?_eq_some_iff.1 hy).1
    simp only [show ((i : Int) < (a.length : Int)) from by omega, decide_true, cond_true]
    rw [bnd_nat hi, hy, Option.bind_some, h104, Option.bind_some, bnd_nat (by omega), List.getElem?_eq_getElem (by omega), Option.bind_some, wr1 (by omega)]
  · intro self out hl
    simp

theorem h46 (a b : List (Int × Int × Int × Int × Int × Int × Int)) (ha : a.length ≤ maxLen) : g46 (a, b) = some (decide (a = b), ()) := by
  show f46 BIG _ = _
  rw [e46]
  by_cases hl : a.length = b.length
  · rw [decide_eq_true (by omega), Bool.not_true, cond_false, eqLoop a b ha hl false]
    · by_cases h : a = b <;> simp [h]
    · intro self i x y hx hy
      have hi := (List.getElem?_eq_some_iff.1 hx).1
      simp only [show ((i : Int) < (a.length : Int)) from by omega, decide_true, cond_true]
      rw [bnd_nat hi, hx, Option.bind_some, bnd_nat (by omega), hy, Option.bind_some, h106, Option.bind_some, wr1 (by omega)]
      by_cases h : x = y <;> simp [h]
    · intro self
      simp
  · rw [decide_eq_false (by omega), Bool.not_false, cond_true, decide_eq_false (fun h => hl (by rw [h]))]

theorem h47 (a b : List (Int × Int × Int × Int × Int × Int)) (ha : a.length ≤ maxLen) : g47 (a, b) = some (decide (a = b), ()) := by
  show f47 BIG _ = _
  rw [e47]
  by_cases hl : a.length = b.length
  · rw [decide_eq_true (by omega), Bool.not_true, cond_false, eqLoop a b ha hl false]
    · by_cases h : a = b <;> simp [h]
    · intro self i x y hx hy
      have hi := (List.getElem?_eq_some_iff.1 hx).1
      simp only [show ((i : Int) < (a.length : Int)) from by omega, decide_true, cond_true]
      rw [bnd_nat hi, hx, Option.bind_some, bnd_nat (by omega), hy, Option.bind_some, h107, Option.bind_some, wr1 (by omega)]
      by_cases h : x = y <;> simp [h]
    · intro self
      simp
  · rw [decide_eq_false (by omega), Bool.not_false, cond_true, decide_eq_false (fun h => hl (by rw [h]))]

abbrev Cl := Int × Int × Int × Int × Int × Int × Int
abbrev Sd := Int × Int × Int × Int × Int × Int
theorem h105 (l : List Sd) (k : Int) (hl : l.length ≤ 1048576) : ∃ r : Int, g105 (l, k) = some (r, ()) ∧ g102 (l, k) = some (r, ()) ∧ r < (l.length : Int) := by
  have hm : maxLen = 9223372036854775807 := by decide
  have h1 : g105 (l, k) = f105 BIG (l, k) := rfl
  have h2 : g102 (l, k) = f102 BIG (l, k) := rfl
  have h : g102 (l, k) = g105 (l, k) := by rw [h1, h2, e105, e102]
  rw [h, h1, e105]
  obtain ⟨r, hr, hq⟩ := findLoop l (by omega) (fun y => decide (y.1 = k)) (F := fun (self1 : Int → Option ((Unit) ⊕ (Int))) (x0 : Int) =>
    bif decide (x0 < (l.length : Int)) then
     bnd l.length x0 fun n2 =>
     Option.bind l[n2]? fun y3 =>
     bif decide (y3.1 = k) then
      some (Sum.inr x0)
     else self1 (IntKind.wrap .i64 (x0 + (1 : Int)))
    else some (Sum.inl ())) (fun self i y hy => by
      have hi := (List.getElem?_eq_some_iff.1 hy).1
      simp only [show ((i : Int) < (l.length : Int)) from by omega, decide_true, cond_true]
      rw [bnd_nat hi, hy, Option.bind_some, wr1 (by omega), Bool.cond_eq_ite]) (fun self => by simp)
  rw [hr]
  rcases hq with rfl | ⟨i, hi, rfl⟩
  · exact ⟨-1, rfl, rfl, by omega⟩
  · exact ⟨i, rfl, rfl, by omega⟩

noncomputable def pl (l : List Sd) (k : Int) : Int := match g105 (l, k) with
  | some (r, _) => r
  | none => 0
theorem pl_105 (l : List Sd) (k : Int) (hl : l.length ≤ 1048576) : g105 (l, k) = some (pl l k, ()) := by
  obtain ⟨r, h1, h2, h3⟩ := h105 l k hl
  unfold pl; rw [h1]
theorem pl_102 (l : List Sd) (k : Int) (hl : l.length ≤ 1048576) : g102 (l, k) = some (pl l k, ()) := by
  obtain ⟨r, h1, h2, h3⟩ := h105 l k hl
  unfold pl; rw [h1, h2]
theorem pl_lt (l : List Sd) (k : Int) (hl : l.length ≤ 1048576) : pl l k < (l.length : Int) := by
  obtain ⟨r, h1, h2, h3⟩ := h105 l k hl
  unfold pl; rw [h1]; exact h3

/-- A call that has come back was said, with its answer. -/
def okS (l : List Sd) (y : Cl) : Prop := 0 ≤ pl l y.1 ∧ ∀ z, l[(pl l y.1).toNat]? = some z → z.2.2.2.2.2 = y.2.2.2.2.2.2
/-- What is in time. -/
def InT (a : List Cl) (l : List Sd) : Prop := (∀ y, y ∈ a → 0 ≤ y.2.2.2.2.2.1 → okS l y) ∧
  ∀ x y, x ∈ a → y ∈ a → 0 ≤ x.2.2.2.2.2.1 → 0 ≤ y.2.2.2.2.2.1 → x.2.2.2.2.2.1 < y.2.2.2.2.1 → pl l x.1 < pl l y.1

open Classical in
theorem h45 (a : List Cl) (l : List Sd) (ha : a.length ≤ 1048576) (hl : l.length ≤ 1048576) : g45 (a, l) = some (decide (InT a l), ()) := by
  have hm : maxLen = 9223372036854775807 := by decide
  show f45 BIG _ = _
  rw [e45, allLoop a (by omega) (fun i => decide (∀ x, a[i]? = some x → 0 ≤ x.2.2.2.2.2.1 → okS l x ∧ ∀ y, y ∈ a → 0 ≤ y.2.2.2.2.2.1 → x.2.2.2.2.2.1 < y.2.2.2.2.1 → pl l x.1 < pl l y.1)) false]
  · by_cases h : InT a l
    · rw [if_pos, decide_eq_true h]
      · rfl
      · intro i hi
        rw [decide_eq_true_eq]
        intro x hx h0
        have hmem := List.mem_of_getElem? hx
        exact ⟨h.1 x hmem h0, fun y hy h1 h2 => h.2 x y hmem hy h0 h1 h2⟩
    · rw [if_neg, decide_eq_false h]
      · rfl
      · intro hh
        apply h
        have each : ∀ x, x ∈ a → 0 ≤ x.2.2.2.2.2.1 → okS l x ∧ ∀ y, y ∈ a → 0 ≤ y.2.2.2.2.2.1 → x.2.2.2.2.2.1 < y.2.2.2.2.1 → pl l x.1 < pl l y.1 := by
          intro x hx h0
          obtain ⟨i, hi⟩ := List.getElem?_of_mem hx
          have := hh i (List.getElem?_eq_some_iff.1 hi).1
          rw [decide_eq_true_eq] at this
          exact this x hi h0
        exact ⟨fun y hy h0 => (each y hy h0).1, fun x y hx hy h0 h1 h2 => (each x hx h0).2 y hy h1 h2⟩
  · intro self i x hx
    have hi := (List.getElem?_eq_some_iff.1 hx).1
    simp only [show ((i : Int) < (a.length : Int)) from by omega, decide_true, cond_true]
    rw [bnd_nat hi, hx, Option.bind_some, wr1 (by omega)]
    simp only [Option.some.injEq, forall_eq']
    by_cases h0 : x.2.2.2.2.2.1 < 0
    · rw [decide_eq_true h0, cond_true, Option.bind_some, if_pos (by rw [decide_eq_true_eq]; intro h; omega)]
    · rw [decide_eq_false h0, cond_false, pl_105 _ _ hl, Option.bind_some]
      by_cases h1 : pl l x.1 < 0
      · simp only [h1, decide_true, cond_true, Option.bind_some]
        rw [if_neg]
        rw [decide_eq_true_eq]
        intro h
        have := (h (by omega)).1.1
        omega
      · have hlt := pl_lt l x.1 hl
        simp only [h1, decide_false, cond_false]
        rw [bnd_ok (by omega) hlt, List.getElem?_eq_getElem (by omega : (pl l x.1).toNat < l.length)]
        simp only [Option.bind_some]
        by_cases h2 : (l[(pl l x.1).toNat]'(by omega)).2.2.2.2.2 = x.2.2.2.2.2.2
        · simp only [h2, decide_true, Bool.not_true, cond_false]
          rw [allLoop a (by omega) (fun j => decide (∀ y, a[j]? = some y → 0 ≤ y.2.2.2.2.2.1 → x.2.2.2.2.2.1 < y.2.2.2.2.1 → pl l x.1 < pl l y.1)) false]
          · simp only [Option.bind_some]
            have hs : okS l x := ⟨by omega, fun z hz => by rw [List.getElem?_eq_getElem (by omega : (pl l x.1).toNat < l.length), Option.some.injEq] at hz; rw [← hz]; exact h2⟩
            by_cases h : ∀ y, y ∈ a → 0 ≤ y.2.2.2.2.2.1 → x.2.2.2.2.2.1 < y.2.2.2.2.1 → pl l x.1 < pl l y.1
            · rw [if_pos, if_pos]
              · rw [decide_eq_true_eq]; exact fun _ => ⟨hs, h⟩
              · intro j hj
                rw [decide_eq_true_eq]
                exact fun y hy => h y (List.mem_of_getElem? hy)
            · rw [if_neg, if_neg]
              · rw [decide_eq_true_eq]; exact fun hh => h (hh (by omega)).2
              · intro hh
                apply h
                intro y hy
                obtain ⟨j, hj⟩ := List.getElem?_of_mem hy
                have := hh j (List.getElem?_eq_some_iff.1 hj).1
                rw [decide_eq_true_eq] at this
                exact this y hj
          · intro self j y hy
            have hj := (List.getElem?_eq_some_iff.1 hy).1
            simp only [show ((j : Int) < (a.length : Int)) from by omega, decide_true, cond_true]
            rw [bnd_nat hj, hy, Option.bind_some, wr1 (by omega), pl_105 _ _ hl]
            simp only [Option.some.injEq, forall_eq', Option.bind_some]
            by_cases c1 : 0 ≤ y.2.2.2.2.2.1 <;> by_cases c2 : x.2.2.2.2.2.1 < y.2.2.2.2.1 <;> by_cases c3 : pl l y.1 ≤ pl l x.1
            all_goals simp [c1, c2, c3]
            all_goals omega
          · intro self; simp
        · simp only [h2, decide_false, Bool.not_false, cond_true, Option.bind_some]
          rw [if_neg]
          rw [decide_eq_true_eq]
          intro h
          exact h2 ((h (by omega)).1.2 _ (List.getElem?_eq_getElem _))
  · intro self; simp

open Classical in
theorem h42 (a : List Cl) (l : List Sd) (ha : a.length ≤ 1048576) (hl : l.length ≤ 1048576) : g42 (a, l) = some (decide (InT a l), ()) := by
  have hm : maxLen = 9223372036854775807 := by decide
  show f42 BIG _ = _
  rw [e42, allLoop a (by omega) (fun i => decide (∀ y, a[i]? = some y → 0 ≤ y.2.2.2.2.2.1 → okS l y ∧ ∀ x, x ∈ a → 0 ≤ x.2.2.2.2.2.1 → x.2.2.2.2.2.1 < y.2.2.2.2.1 → pl l x.1 < pl l y.1)) false]
  · by_cases h : InT a l
    · rw [if_pos, decide_eq_true h]
      · rfl
      · intro i hi
        rw [decide_eq_true_eq]
        intro x hx h0
        have hmem := List.mem_of_getElem? hx
        exact ⟨h.1 x hmem h0, fun y hy h1 h2 => h.2 y x hy hmem h1 h0 h2⟩
    · rw [if_neg, decide_eq_false h]
      · rfl
      · intro hh
        apply h
        have each : ∀ y, y ∈ a → 0 ≤ y.2.2.2.2.2.1 → okS l y ∧ ∀ x, x ∈ a → 0 ≤ x.2.2.2.2.2.1 → x.2.2.2.2.2.1 < y.2.2.2.2.1 → pl l x.1 < pl l y.1 := by
          intro x hx h0
          obtain ⟨i, hi⟩ := List.getElem?_of_mem hx
          have := hh i (List.getElem?_eq_some_iff.1 hi).1
          rw [decide_eq_true_eq] at this
          exact this x hi h0
        exact ⟨fun y hy h0 => (each y hy h0).1, fun x y hx hy h0 h1 h2 => (each y hy h1).2 x hx h0 h2⟩
  · intro self i x hx
    have hi := (List.getElem?_eq_some_iff.1 hx).1
    simp only [show ((i : Int) < (a.length : Int)) from by omega, decide_true, cond_true]
    simp only [bnd_nat hi, hx, Option.bind_some, wr1 (show i < maxLen from by omega)]
    simp only [Option.some.injEq, forall_eq']
    by_cases h0 : x.2.2.2.2.2.1 < 0
    · rw [decide_eq_true h0, cond_true, Option.bind_some, if_pos (by rw [decide_eq_true_eq]; intro h; omega)]
    · rw [decide_eq_false h0, cond_false, pl_102 _ _ hl, Option.bind_some]
      by_cases h1 : pl l x.1 < 0
      · simp only [h1, decide_true, cond_true, Option.bind_some]
        rw [if_neg]
        rw [decide_eq_true_eq]
        intro h
        have := (h (by omega)).1.1
        omega
      · have hlt := pl_lt l x.1 hl
        simp only [h1, decide_false, cond_false]
        rw [bnd_ok (by omega) hlt, List.getElem?_eq_getElem (by omega : (pl l x.1).toNat < l.length)]
        simp only [Option.bind_some]
        by_cases h2 : (l[(pl l x.1).toNat]'(by omega)).2.2.2.2.2 = x.2.2.2.2.2.2
        · simp only [h2, decide_true, Bool.not_true, cond_false]
          rw [allLoop a (by omega) (fun j => decide (∀ y, a[j]? = some y → 0 ≤ y.2.2.2.2.2.1 → y.2.2.2.2.2.1 < x.2.2.2.2.1 → pl l y.1 < pl l x.1)) false]
          · simp only [Option.bind_some]
            have hs : okS l x := ⟨by omega, fun z hz => by rw [List.getElem?_eq_getElem (by omega : (pl l x.1).toNat < l.length), Option.some.injEq] at hz; rw [← hz]; exact h2⟩
            by_cases h : ∀ y, y ∈ a → 0 ≤ y.2.2.2.2.2.1 → y.2.2.2.2.2.1 < x.2.2.2.2.1 → pl l y.1 < pl l x.1
            · rw [if_pos, if_pos]
              · rw [decide_eq_true_eq]; exact fun _ => ⟨hs, h⟩
              · intro j hj
                rw [decide_eq_true_eq]
                exact fun y hy => h y (List.mem_of_getElem? hy)
            · rw [if_neg, if_neg]
              · rw [decide_eq_true_eq]; exact fun hh => h (hh (by omega)).2
              · intro hh
                apply h
                intro y hy
                obtain ⟨j, hj⟩ := List.getElem?_of_mem hy
                have := hh j (List.getElem?_eq_some_iff.1 hj).1
                rw [decide_eq_true_eq] at this
                exact this y hj
          · intro self j y hy
            have hj := (List.getElem?_eq_some_iff.1 hy).1
            simp only [show ((j : Int) < (a.length : Int)) from by omega, decide_true, cond_true]
            simp only [bnd_nat hj, hy, Option.bind_some, wr1 (show j < maxLen from by omega), pl_102 _ _ hl]
            simp only [Option.some.injEq, forall_eq', Option.bind_some]
            by_cases c1 : 0 ≤ y.2.2.2.2.2.1 <;> by_cases c2 : y.2.2.2.2.2.1 < x.2.2.2.2.1 <;> by_cases c3 : pl l x.1 ≤ pl l y.1
            all_goals simp [c1, c2, c3]
            all_goals omega
          · intro self; simp
        · simp only [h2, decide_false, Bool.not_false, cond_true, Option.bind_some]
          rw [if_neg]
          rw [decide_eq_true_eq]
          intro h
          exact h2 ((h (by omega)).1.2 _ (List.getElem?_eq_getElem _))
  · intro self; simp

theorem law7 (a : List Cl) (l : List Sd) (h1 : a.length ≤ maxLen) (h2 : l.length ≤ maxLen) : g7 (a, l) = some (true, ()) := by
  have hm : maxLen = 9223372036854775807 := by decide
  show f7 BIG _ = _
  rw [e7, h40 a _ (by omega) (by omega) h1, Option.bind_some]
  by_cases ho : a.length ≤ 1048576
  · rw [if_pos (by omega), decide_eq_false (by simp; omega), cond_false, h41 l _ (by simp; omega) (by simp; omega) h2, Option.bind_some]
    by_cases he : (l.length : Int) ≤ 1048576 - (a.length : Int)
    · rw [if_pos he, decide_eq_false (by simp; omega), cond_false]
      have hl : l.length ≤ 1048576 := by omega
      simp only [h43 a ho, h44 l hl, h45 a l ho hl, h42 a l ho hl, h46 a a h1, h47 l l h2, Option.bind_some, decide_true, Bool.not_true, cond_false, beq_self_eq_true]
    · rw [if_neg he]; rfl
  · rw [if_neg (by omega)]; rfl
end Go.Fw
