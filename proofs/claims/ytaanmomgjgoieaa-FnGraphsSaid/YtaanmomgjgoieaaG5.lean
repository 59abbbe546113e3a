/- What the given functions compute, and what that comes to. No conditions. -/
import Derived.Test.YtaanmomgjgoieaaG4
import Derived.Test.YtaanmomgjgoieaaProg
import Derived.IntWalk
set_option linter.unusedVariables false
set_option linter.unusedSimpArgs false
/- The given functions, as what they compute; each is shown to be what the code does. -/
namespace Go.Fw
noncomputable abbrev PG := Go.Proofs.Try.prog
/- laws.szIntS -/
def c81 : TC :=
 (.seq (.rg [o1 4 (.lit [.i .i64] [.int .i64 (0)])])
 (.seq (.rg [o1 5 (.copy 1),
   o1 6 (.copy 0),
   o1 7 (.len 6),
   o1 8 (.data (.bin .sub) [.t 5, .t 7]),
   o1 1 (.copy 8)])
 (.seq (.seq (.rg [o1 9 (.copy 1),
   o1 10 (.data (.bin .lss) [.t 9, .c (.int .i64 (0))])])
 (.cond (.t 10)
  (.seq (.rg [o1 4 (.lit [.i .i64] [.int .i64 (-1)])])
  .ret)
  .skip))
 (.seq (.rg [o1 11 (.copy 1),
   o1 4 (.copy 11)])
 .ret))))
def s81 : Sig := ⟨[.rd false [.sl (.own none) [.d]], .rd false [.d]], (.one false [.d])⟩
noncomputable def E81 : TEnv := envOf []
noncomputable def f81 (n : Nat) : List (Int) × Int → Option ((Int) × (Unit)) := runFn n E81 c81 [[.sl [.i .i64]], [.i .i64]] [.i .i64] [] [4] .no
noncomputable def g81 : List (Int) × Int → Option ((Int) × (Unit)) := f81 BIG
noncomputable def p81 : TSp := ⟨s81, [[.sl [.i .i64]], [.i .i64]], [.i .i64], [], Ou.j .no, g81⟩
theorem k81 : chkW PG E81 81 s81 (c81.ht 12) .no = some (c81.wc E81, [4]) := by kernel_rfl
theorem ok81 : p81.Ok PG 81 := mkOk (env_nil PG) k81 (by kernel_rfl)
theorem e81 (n : Nat) (a0 : List (Int)) (a1 : Int) : f81 n (a0, a1) =
  bif decide ((IntKind.wrap .i64 (a1 - (a0.length : Int))) < (0 : Int)) then
   some ((-1 : Int), ())
  else some (IntKind.wrap .i64 (a1 - (a0.length : Int)), ()) := by kernel_rfl
/- laws.szEvent -/
def c15 : TC :=
 (.seq (.rg [o1 2 (.a (.t 0)),
   o1 4 (.lit [.i .i64] [.int .i64 (0)])])
 (.seq (.rg [o1 5 (.idx .nil),
   o1 6 (.load 2 [] 8 (.t 5) 1 false),
   o1 7 (.copy 1),
   ⟨false, [], [], .call 1 81 [.t 6, .t 7] .no, [8], (some 8), none⟩,
   o1 1 (.copy 8)])
 (.seq (.seq (.rg [o1 9 (.copy 1),
   o1 10 (.data (.bin .lss) [.t 9, .c (.int .i64 (0))])])
 (.cond (.t 10)
  (.seq (.rg [o1 4 (.lit [.i .i64] [.int .i64 (-1)])])
  .ret)
  .skip))
 (.seq (.rg [o1 11 (.copy 1),
   o1 4 (.copy 11)])
 .ret))))
def s15 : Sig := ⟨[.rd true [.d, .d, .d, .d, .d, .d, .d, .d, .sl (.own none) [.d]], .rd false [.d]], (.one false [.d])⟩
noncomputable def E15 : TEnv := envOf [(81, p81)]
noncomputable def f15 (n : Nat) : (Int × Int × Int × Int × Int × Int × Int × Bool × List (Int)) × Int → Option ((Int) × (Unit)) := runFn n E15 c15 [[.i .i64, .i .i64, .i .i64, .i .i64, .i .i64, .i .i64, .i .i64, .b, .sl [.i .i64]], [.i .i64]] [.i .i64] [] [4] .no
noncomputable def g15 : (Int × Int × Int × Int × Int × Int × Int × Bool × List (Int)) × Int → Option ((Int) × (Unit)) := f15 BIG
noncomputable def p15 : TSp := ⟨s15, [[.i .i64, .i .i64, .i .i64, .i .i64, .i .i64, .i .i64, .i .i64, .b, .sl [.i .i64]], [.i .i64]], [.i .i64], [], Ou.j .no, g15⟩
theorem k15 : chkW PG E15 15 s15 (c15.ht 12) .no = some (c15.wc E15, [4]) := by kernel_rfl
theorem ok15 : p15.Ok PG 15 := mkOk (env_cons ok81 (env_nil PG)) k15 (by kernel_rfl)
theorem e15 (n : Nat) (a0 : Int × Int × Int × Int × Int × Int × Int × Bool × List (Int)) (a1 : Int) : f15 n (a0, a1) =
  Option.bind (g81 (a0.2.2.2.2.2.2.2.2, a1)) fun r0 =>
  bif decide (r0.1 < (0 : Int)) then
   some ((-1 : Int), ())
  else some (r0.1, ()) := by kernel_rfl
/- laws.toAsk -/
def c83 : TC :=
 (.seq (.rg [o1 1 (.a (.t 0)),
   ⟨false, [], [], .det 2 (.a (.c [.i .i64, .i .i64, .i .i64, .i .i64] [.int .i64 (0), .int .i64 (0), .int .i64 (0), .int .i64 (0)])), [2, 1000000001], (some 2), none⟩])
 (.seq (.rg [⟨false, [], [], .det 2 (.a (.c [.i .i64, .i .i64, .i .i64, .i .i64] [.int .i64 (0), .int .i64 (0), .int .i64 (0), .int .i64 (0)])), [3, 1000000001], (some 3), none⟩])
 (.seq (.rg [o1 4 (.idx .nil),
   o1 5 (.load 1 [] 0 (.t 4) 1 false),
   o1 6 (.idx .nil),
   ⟨false, [], [], .det 1 (.store 3 [] 0 (.t 6) (.t 5)), [3], none, none⟩])
 (.seq (.rg [o1 7 (.idx .nil),
   o1 8 (.load 1 [] 1 (.t 7) 1 false),
   o1 9 (.idx .nil),
   ⟨false, [], [], .det 1 (.store 3 [] 1 (.t 9) (.t 8)), [3], none, none⟩])
 (.seq (.rg [o1 10 (.idx .nil),
   o1 11 (.load 1 [] 2 (.t 10) 1 false),
   o1 12 (.idx .nil),
   ⟨false, [], [], .det 1 (.store 3 [] 2 (.t 12) (.t 11)), [3], none, none⟩])
 (.seq (.rg [o1 13 (.idx .nil),
   o1 14 (.load 1 [] 3 (.t 13) 1 false),
   o1 15 (.idx .nil),
   ⟨false, [], [], .det 1 (.store 3 [] 3 (.t 15) (.t 14)), [3], none, none⟩])
 (.seq (.rg [o1 16 (.load 3 [] 0 .nil 4 false),
   ⟨false, [], [], .det 1 (.store 2 [] 0 .nil (.t 16)), [2], none, none⟩])
 .ret)))))))
def s83 : Sig := ⟨[.rd true [.d, .d, .d, .d]], (.one true [.d, .d, .d, .d])⟩
noncomputable def E83 : TEnv := envOf []
noncomputable def f83 (n : Nat) : (Int × Int × Int × Int) → Option ((Int × Int × Int × Int) × (Unit)) := runFn n E83 c83 [[.i .i64, .i .i64, .i .i64, .i .i64]] [.i .i64, .i .i64, .i .i64, .i .i64] [] [2] .no
noncomputable def g83 : (Int × Int × Int × Int) → Option ((Int × Int × Int × Int) × (Unit)) := f83 BIG
noncomputable def p83 : TSp := ⟨s83, [[.i .i64, .i .i64, .i .i64, .i .i64]], [.i .i64, .i .i64, .i .i64, .i .i64], [], Ou.j .no, g83⟩
theorem k83 : chkW PG E83 83 s83 (c83.ht 17) .no = some (c83.wc E83, [2]) := by kernel_rfl
theorem ok83 : p83.Ok PG 83 := mkOk (env_nil PG) k83 (by kernel_rfl)
theorem e83 (n : Nat) (a0 : Int × Int × Int × Int) : f83 n a0 =
  some ((a0.1, a0.2.1, a0.2.2.1, a0.2.2.2), ()) := by kernel_rfl
/- laws.toIntS -/
def c26 : TC :=
 (.seq (.rg [o1 2 (.lit [.sl [.i .i64]] [.slice none 0 0])])
 (.seq (.rg [o1 5 (.copy 0),
   o1 6 (.len 5),
   o1 7 (.make (.t 6) [.i .i64]),
   ⟨false, [], [], .det 2 (.copy 7), [3, 7], (some 3), none⟩])
 (.seq (.join [⟨3, [.sl [.i .i64]], false⟩] 2096920 none (.seq (.rg [o1 4 (.lit [.i .i64] [.int .i64 (0)])])
 (.block 0 (.loop [⟨3, [.sl [.i .i64]], false⟩, ⟨4, [.i .i64], false⟩] 2096920
  (.seq (.seq (.rg [o1 8 (.copy 4),
    o1 9 (.copy 0),
    o1 10 (.len 9),
    o1 11 (.data (.bin .lss) [.t 8, .t 10])])
  (.cond (.t 11)
   .skip
   (.exit 0)))
  (.seq (.block 1 (.rg [⟨true, [], [], .det 1 (.copy 3), [14], (some 14), none⟩,
    o1 15 (.copy 4),
    o1 16 (.copy 0),
    o1 17 (.copy 4),
    o1 18 (.index 16 (.t 17)),
    o1 19 (.load 16 [(0, 1)] 0 (.t 18) 1 false),
    o1 20 (.index 14 (.t 15)),
    ⟨false, [], [], .det 1 (.store 3 [(0, 1)] 0 (.t 20) (.t 19)), [3, 14], none, none⟩]))
  (.rg [o1 12 (.copy 4),
    o1 13 (.data (.bin .add) [.t 12, .c (.int .i64 (1))]),
    o1 4 (.copy 13)])))))))
 (.seq (.rg [⟨false, [], [], .det 2 (.copy 3), [21, 3], (some 21), none⟩,
   ⟨false, [], [], .det 2 (.copy 21), [2, 21], (some 2), none⟩])
 .ret))))
def s26 : Sig := ⟨[.rd false [.sl (.own none) [.d]]], (.one false [.sl (.own none) [.d]])⟩
noncomputable def E26 : TEnv := envOf []
noncomputable def f26 (n : Nat) : List (Int) → Option ((List (Int)) × (Unit)) := runFn n E26 c26 [[.sl [.i .i64]]] [.sl [.i .i64]] [] [2] .no
noncomputable def g26 : List (Int) → Option ((List (Int)) × (Unit)) := f26 BIG
noncomputable def p26 : TSp := ⟨s26, [[.sl [.i .i64]]], [.sl [.i .i64]], [], Ou.j .no, g26⟩
theorem k26 : chkW PG E26 26 s26 (c26.ht 22) .no = some (c26.wc E26, [2]) := by kernel_rfl
theorem ok26 : p26.Ok PG 26 := mkOk (env_nil PG) k26 (by kernel_rfl)
theorem e26 (n : Nat) (a0 : List (Int)) : f26 n a0 =
  bif decide (0 ≤ (a0.length : Int)) then
   bif decide ((Int.toNat (a0.length : Int)) ≤ 4294967296) then
    Option.bind (loopT n (fun (self1 : (List (Int)) × Int → Option ((List (Int)))) (x0 : (List (Int)) × Int) =>
      bif decide (x0.2 < (a0.length : Int)) then
       bnd a0.length x0.2 fun n2 =>
       Option.bind a0[n2]? fun y3 =>
       bnd x0.1.length x0.2 fun n4 =>
       Option.bind x0.1[n4]? fun y5 =>
       self1 (x0.1.set n4 y3, IntKind.wrap .i64 (x0.2 + (1 : Int)))
      else some x0.1) (List.replicate (Int.toNat (a0.length : Int)) (0 : Int), (0 : Int)) : Option ((List (Int)))) fun x6 =>
    some (x6, ())
   else none
  else none := by kernel_rfl
/- laws.toEvent -/
def c17 : TC :=
 (.seq (.rg [o1 1 (.a (.t 0)),
   ⟨false, [], [], .det 2 (.a (.c [.i .i64, .i .i64, .i .i64, .i .i64, .i .i64, .i .i64, .i .i64, .b, .sl [.i .i64]] [.int .i64 (0), .int .i64 (0), .int .i64 (0), .int .i64 (0), .int .i64 (0), .int .i64 (0), .int .i64 (0), .bool false, .slice none 0 0])), [2, 1000000001], (some 2), none⟩])
 (.seq (.rg [⟨false, [], [], .det 2 (.a (.c [.i .i64, .i .i64, .i .i64, .i .i64, .i .i64, .i .i64, .i .i64, .b, .sl [.i .i64]] [.int .i64 (0), .int .i64 (0), .int .i64 (0), .int .i64 (0), .int .i64 (0), .int .i64 (0), .int .i64 (0), .bool false, .slice none 0 0])), [3, 1000000001], (some 3), none⟩])
 (.seq (.rg [o1 4 (.idx .nil),
   o1 5 (.load 1 [] 0 (.t 4) 1 false),
   o1 6 (.idx .nil),
   ⟨false, [], [], .det 1 (.store 3 [] 0 (.t 6) (.t 5)), [3], none, none⟩])
 (.seq (.rg [o1 7 (.idx .nil),
   o1 8 (.load 1 [] 1 (.t 7) 1 false),
   o1 9 (.idx .nil),
   ⟨false, [], [], .det 1 (.store 3 [] 1 (.t 9) (.t 8)), [3], none, none⟩])
 (.seq (.rg [o1 10 (.idx .nil),
   o1 11 (.load 1 [] 2 (.t 10) 1 false),
   o1 12 (.idx .nil),
   ⟨false, [], [], .det 1 (.store 3 [] 2 (.t 12) (.t 11)), [3], none, none⟩])
 (.seq (.rg [o1 13 (.idx .nil),
   o1 14 (.load 1 [] 3 (.t 13) 4 false),
   ⟨false, [], [], .call 1 83 [.t 14] .no, [15], (some 15), none⟩,
   o1 16 (.idx .nil),
   ⟨false, [], [], .det 1 (.store 3 [] 3 (.t 16) (.t 15)), [3], none, none⟩])
 (.seq (.rg [o1 17 (.idx .nil),
   o1 18 (.load 1 [] 7 (.t 17) 1 false),
   o1 19 (.idx .nil),
   ⟨false, [], [], .det 1 (.store 3 [] 7 (.t 19) (.t 18)), [3], none, none⟩])
 (.seq (.rg [o1 20 (.idx .nil),
   o1 21 (.load 1 [] 8 (.t 20) 1 false),
   ⟨false, [], [], .call 1 26 [.t 21] .no, [22], (some 22), none⟩,
   o1 23 (.idx .nil),
   ⟨false, [], [], .det 2 (.store 3 [] 8 (.t 23) (.t 22)), [3, 22], none, none⟩])
 (.seq (.rg [o1 24 (.load 3 [] 0 .nil 9 true),
   ⟨false, [24], [], .det 2 (.store 2 [] 0 .nil (.t 24)), [2, 24, 24, 3], none, none⟩])
 .ret)))))))))
def s17 : Sig := ⟨[.rd true [.d, .d, .d, .d, .d, .d, .d, .d, .sl (.own none) [.d]]], (.one true [.d, .d, .d, .d, .d, .d, .d, .d, .sl (.own none) [.d]])⟩
noncomputable def E17 : TEnv := envOf [(83, p83), (26, p26)]
noncomputable def f17 (n : Nat) : (Int × Int × Int × Int × Int × Int × Int × Bool × List (Int)) → Option ((Int × Int × Int × Int × Int × Int × Int × Bool × List (Int)) × (Unit)) := runFn n E17 c17 [[.i .i64, .i .i64, .i .i64, .i .i64, .i .i64, .i .i64, .i .i64, .b, .sl [.i .i64]]] [.i .i64, .i .i64, .i .i64, .i .i64, .i .i64, .i .i64, .i .i64, .b, .sl [.i .i64]] [] [2] .no
noncomputable def g17 : (Int × Int × Int × Int × Int × Int × Int × Bool × List (Int)) → Option ((Int × Int × Int × Int × Int × Int × Int × Bool × List (Int)) × (Unit)) := f17 BIG
noncomputable def p17 : TSp := ⟨s17, [[.i .i64, .i .i64, .i .i64, .i .i64, .i .i64, .i .i64, .i .i64, .b, .sl [.i .i64]]], [.i .i64, .i .i64, .i .i64, .i .i64, .i .i64, .i .i64, .i .i64, .b, .sl [.i .i64]], [], Ou.j .no, g17⟩
theorem k17 : chkW PG E17 17 s17 (c17.ht 25) .no = some (c17.wc E17, [2]) := by kernel_rfl
theorem ok17 : p17.Ok PG 17 := mkOk (env_cons ok83 (env_cons ok26 (env_nil PG))) k17 (by kernel_rfl)
theorem e17 (n : Nat) (a0 : Int × Int × Int × Int × Int × Int × Int × Bool × List (Int)) : f17 n a0 =
  Option.bind (g83 (a0.2.2.2.1, a0.2.2.2.2.1, a0.2.2.2.2.2.1, a0.2.2.2.2.2.2.1)) fun r0 =>
  Option.bind (g26 a0.2.2.2.2.2.2.2.2) fun r1 =>
  some ((a0.1, a0.2.1, a0.2.2.1, r0.1.1, r0.1.2.1, r0.1.2.2.1, r0.1.2.2.2, a0.2.2.2.2.2.2.2.1, r1.1), ()) := by kernel_rfl
/- spec.l01In -/
def c82 : TC :=
 (.seq (.rg [o1 6 (.lit [.b] [.bool false])])
 (.seq (.join [⟨6, [.b], false⟩] 32704 none (.rg [o1 7 (.copy 0),
   o1 8 (.copy 1),
   o1 9 (.data (.bin .geq) [.t 7, .t 8]),
   o1 10 (.copy 9),
   ⟨false, [], [], .det 1 (.copy 0), [11], (some 11), some (3, true)⟩,
   ⟨false, [], [], .det 1 (.copy 2), [12], (some 12), some (3, true)⟩,
   ⟨false, [], [], .det 1 (.data (.bin .leq) [.t 11, .t 12]), [13], (some 13), some (3, true)⟩,
   ⟨false, [], [], .pick 10 (.t 13) (.c (.bool false)), [14], (some 14), none⟩,
   o1 6 (.copy 14)]))
 .ret))
def s82 : Sig := ⟨[.rd false [.d], .rd false [.d], .rd false [.d]], (.one false [.d])⟩
noncomputable def E82 : TEnv := envOf []
noncomputable def f82 (n : Nat) : Int × Int × Int → Option ((Bool) × (Unit)) := runFn n E82 c82 [[.i .i64], [.i .i64], [.i .i64]] [.b] [] [6] .no
noncomputable def g82 : Int × Int × Int → Option ((Bool) × (Unit)) := f82 BIG
noncomputable def p82 : TSp := ⟨s82, [[.i .i64], [.i .i64], [.i .i64]], [.b], [], Ou.j .no, g82⟩
theorem k82 : chkW PG E82 82 s82 (c82.ht 15) .no = some (c82.wc E82, [6]) := by kernel_rfl
theorem ok82 : p82.Ok PG 82 := mkOk (env_nil PG) k82 (by kernel_rfl)
theorem e82 (n : Nat) (a0 : Int) (a1 : Int) (a2 : Int) : f82 n (a0, a1, a2) =
  Option.bind (bif decide (a1 ≤ a0) then
    some (decide (a0 ≤ a2))
   else some false : Option (Bool)) fun x0 =>
  some (x0, ()) := by kernel_rfl
/- spec.EventOk -/
def c16 : TC :=
 (.seq (.rg [o1 3 (.a (.t 1)),
   o1 4 (.lit [.b] [.bool false])])
 (.seq (.seq (.join [⟨32, [.b], false⟩] 8589934528 none (.rg [o1 6 (.copy 0),
   ⟨false, [], [], .call 1 82 [.t 6, .c [.i .i64] [.int .i64 (1)], .c [.i .i64] [.int .i64 (3)]] .no, [7], (some 7), none⟩,
   o1 8 (.data .not [.t 7]),
   o1 9 (.copy 8),
   ⟨false, [], [], .det 1 (.idx .nil), [10], (some 10), some (3, false)⟩,
   ⟨false, [], [], .det 1 (.load 3 [] 0 (.t 10) 1 false), [11], (some 11), some (3, false)⟩,
   ⟨false, [], [], .call 1 82 [.t 11, .c [.i .i64] [.int .i64 (1)], .c [.i .i64] [.int .i64 (7)]] .no, [12], (some 12), some (3, false)⟩,
   ⟨false, [], [], .det 1 (.data .not [.t 12]), [13], (some 13), some (3, false)⟩,
   ⟨false, [], [], .pick 9 (.c (.bool true)) (.t 13), [14], (some 14), none⟩,
   o1 15 (.copy 14),
   ⟨false, [], [], .det 1 (.idx .nil), [16], (some 16), some (9, false)⟩,
   ⟨false, [], [], .det 1 (.load 3 [] 1 (.t 16) 1 false), [17], (some 17), some (9, false)⟩,
   ⟨false, [], [], .det 1 (.copy 0), [18], (some 18), some (9, false)⟩,
   ⟨false, [], [], .call 1 82 [.t 17, .c [.i .i64] [.int .i64 (0)], .t 18] .no, [19], (some 19), some (9, false)⟩,
   ⟨false, [], [], .det 1 (.data .not [.t 19]), [20], (some 20), some (9, false)⟩,
   ⟨false, [], [], .pick 15 (.c (.bool true)) (.t 20), [21], (some 21), none⟩,
   o1 22 (.copy 21),
   ⟨false, [], [], .det 1 (.idx .nil), [23], (some 23), some (16, false)⟩,
   ⟨false, [], [], .det 1 (.load 3 [] 2 (.t 23) 1 false), [24], (some 24), some (16, false)⟩,
   ⟨false, [], [], .det 1 (.data (.bin .lss) [.t 24, .c (.int .i64 (0))]), [25], (some 25), some (16, false)⟩,
   ⟨false, [], [], .pick 22 (.c (.bool true)) (.t 25), [26], (some 26), none⟩,
   o1 27 (.copy 26),
   ⟨false, [], [], .det 1 (.idx .nil), [28], (some 28), some (21, false)⟩,
   ⟨false, [], [], .det 1 (.load 3 [] 8 (.t 28) 1 false), [29], (some 29), some (21, false)⟩,
   ⟨false, [], [], .det 1 (.len 29), [30], (some 30), some (21, false)⟩,
   ⟨false, [], [], .det 1 (.data (.bin .gtr) [.t 30, .c (.int .i64 (30))]), [31], (some 31), some (21, false)⟩,
   ⟨false, [], [], .pick 27 (.c (.bool true)) (.t 31), [32], (some 32), none⟩]))
 (.cond (.t 32)
  (.seq (.rg [o1 4 (.lit [.b] [.bool false])])
  .ret)
  .skip))
 (.seq (.rg [o1 33 (.idx .nil),
   o1 34 (.load 3 [] 3 (.t 33) 4 false),
   ⟨false, [], [], .det 2 (.a (.c [.i .i64, .i .i64, .i .i64, .i .i64] [.int .i64 (0), .int .i64 (0), .int .i64 (0), .int .i64 (0)])), [5, 1000000001], (some 5), none⟩,
   ⟨false, [], [], .det 1 (.store 5 [] 0 .nil (.t 34)), [5], none, none⟩])
 (.seq (.join [⟨4, [.b], false⟩] 288230341791973392 none (.rg [o1 35 (.idx .nil),
   o1 36 (.load 3 [] 0 (.t 35) 1 false),
   o1 37 (.data (.bin .neq) [.t 36, .c (.int .i64 (1))]),
   o1 38 (.copy 37),
   ⟨false, [], [], .det 1 (.idx .nil), [39], (some 39), some (3, false)⟩,
   ⟨false, [], [], .det 1 (.load 5 [] 0 (.t 39) 1 false), [40], (some 40), some (3, false)⟩,
   ⟨false, [], [], .call 1 82 [.t 40, .c [.i .i64] [.int .i64 (1)], .c [.i .i64] [.int .i64 (100000)]] .no, [41], (some 41), some (3, false)⟩,
   ⟨false, [], [], .det 1 (.copy 41), [42], (some 42), some (3, false)⟩,
   ⟨false, [], [], .det 1 (.idx .nil), [43], (some 43), some (7, true)⟩,
   ⟨false, [], [], .det 1 (.load 5 [] 1 (.t 43) 1 false), [44], (some 44), some (7, true)⟩,
   ⟨false, [], [], .call 1 82 [.t 44, .c [.i .i64] [.int .i64 (0)], .c [.i .i64] [.int .i64 (100000)]] .no, [45], (some 45), some (7, true)⟩,
   ⟨false, [], [], .pick 42 (.t 45) (.c (.bool false)), [46], (some 46), some (3, false)⟩,
   ⟨false, [], [], .det 1 (.copy 46), [47], (some 47), some (3, false)⟩,
   ⟨false, [], [], .det 1 (.idx .nil), [48], (some 48), some (12, true)⟩,
   ⟨false, [], [], .det 1 (.load 5 [] 2 (.t 48) 1 false), [49], (some 49), some (12, true)⟩,
   ⟨false, [], [], .call 1 82 [.t 49, .c [.i .i64] [.int .i64 (0)], .c [.i .i64] [.int .i64 (100000)]] .no, [50], (some 50), some (12, true)⟩,
   ⟨false, [], [], .pick 47 (.t 50) (.c (.bool false)), [51], (some 51), some (3, false)⟩,
   ⟨false, [], [], .det 1 (.copy 51), [52], (some 52), some (3, false)⟩,
   ⟨false, [], [], .det 1 (.idx .nil), [53], (some 53), some (17, true)⟩,
   ⟨false, [], [], .det 1 (.load 5 [] 3 (.t 53) 1 false), [54], (some 54), some (17, true)⟩,
   ⟨false, [], [], .call 1 82 [.t 54, .c [.i .i64] [.int .i64 (0)], .c [.i .i64] [.int .i64 (100000)]] .no, [55], (some 55), some (17, true)⟩,
   ⟨false, [], [], .pick 52 (.t 55) (.c (.bool false)), [56], (some 56), some (3, false)⟩,
   ⟨false, [], [], .pick 38 (.c (.bool true)) (.t 56), [57], (some 57), none⟩,
   o1 4 (.copy 57)]))
 .ret))))
def s16 : Sig := ⟨[.rd false [.d], .rd true [.d, .d, .d, .d, .d, .d, .d, .d, .sl (.own none) [.d]]], (.one false [.d])⟩
noncomputable def E16 : TEnv := envOf [(82, p82)]
noncomputable def f16 (n : Nat) : Int × (Int × Int × Int × Int × Int × Int × Int × Bool × List (Int)) → Option ((Bool) × (Unit)) := runFn n E16 c16 [[.i .i64], [.i .i64, .i .i64, .i .i64, .i .i64, .i .i64, .i .i64, .i .i64, .b, .sl [.i .i64]]] [.b] [] [4] .no
noncomputable def g16 : Int × (Int × Int × Int × Int × Int × Int × Int × Bool × List (Int)) → Option ((Bool) × (Unit)) := f16 BIG
noncomputable def p16 : TSp := ⟨s16, [[.i .i64], [.i .i64, .i .i64, .i .i64, .i .i64, .i .i64, .i .i64, .i .i64, .b, .sl [.i .i64]]], [.b], [], Ou.j .no, g16⟩
theorem k16 : chkW PG E16 16 s16 (c16.ht 58) .no = some (c16.wc E16, [4]) := by kernel_rfl
theorem ok16 : p16.Ok PG 16 := mkOk (env_cons ok82 (env_nil PG)) k16 (by kernel_rfl)
theorem e16 (n : Nat) (a0 : Int) (a1 : Int × Int × Int × Int × Int × Int × Int × Bool × List (Int)) : f16 n (a0, a1) =
  Option.bind (Option.bind (g82 (a0, (1 : Int), (3 : Int))) fun r0 =>
   bif !r0.1 then
    some true
   else Option.bind (g82 (a1.1, (1 : Int), (7 : Int))) fun r1 =>
   bif !r1.1 then
    some true
   else Option.bind (g82 (a1.2.1, (0 : Int), a0)) fun r2 =>
   bif !r2.1 then
    some true
   else bif decide (a1.2.2.1 < (0 : Int)) then
    some true
   else some (decide ((30 : Int) < (a1.2.2.2.2.2.2.2.2.length : Int))) : Option (Bool)) fun x3 =>
  bif x3 then
   some (false, ())
  else Option.bind (bif !decide (a1.1 = (1 : Int)) then
    some true
   else Option.bind (g82 (a1.2.2.2.1, (1 : Int), (100000 : Int))) fun r4 =>
   bif r4.1 then
    Option.bind (g82 (a1.2.2.2.2.1, (0 : Int), (100000 : Int))) fun r5 =>
    bif r5.1 then
     Option.bind (g82 (a1.2.2.2.2.2.1, (0 : Int), (100000 : Int))) fun r6 =>
     bif r6.1 then
      Option.bind (g82 (a1.2.2.2.2.2.2.1, (0 : Int), (100000 : Int))) fun r7 =>
      some r7.1
     else some false
    else some false
   else some false : Option (Bool)) fun x8 =>
  some (x8, ()) := by kernel_rfl
/- impl.in -/
def c84 : TC :=
 (.seq (.rg [o1 6 (.lit [.b] [.bool false])])
 (.seq (.join [⟨6, [.b], false⟩] 32704 none (.rg [o1 7 (.copy 0),
   o1 8 (.copy 1),
   o1 9 (.data (.bin .geq) [.t 7, .t 8]),
   o1 10 (.copy 9),
   ⟨false, [], [], .det 1 (.copy 0), [11], (some 11), some (3, true)⟩,
   ⟨false, [], [], .det 1 (.copy 2), [12], (some 12), some (3, true)⟩,
   ⟨false, [], [], .det 1 (.data (.bin .leq) [.t 11, .t 12]), [13], (some 13), some (3, true)⟩,
   ⟨false, [], [], .pick 10 (.t 13) (.c (.bool false)), [14], (some 14), none⟩,
   o1 6 (.copy 14)]))
 .ret))
def s84 : Sig := ⟨[.rd false [.d], .rd false [.d], .rd false [.d]], (.one false [.d])⟩
noncomputable def E84 : TEnv := envOf []
noncomputable def f84 (n : Nat) : Int × Int × Int → Option ((Bool) × (Unit)) := runFn n E84 c84 [[.i .i64], [.i .i64], [.i .i64]] [.b] [] [6] .no
noncomputable def g84 : Int × Int × Int → Option ((Bool) × (Unit)) := f84 BIG
noncomputable def p84 : TSp := ⟨s84, [[.i .i64], [.i .i64], [.i .i64]], [.b], [], Ou.j .no, g84⟩
theorem k84 : chkW PG E84 84 s84 (c84.ht 15) .no = some (c84.wc E84, [6]) := by kernel_rfl
theorem ok84 : p84.Ok PG 84 := mkOk (env_nil PG) k84 (by kernel_rfl)
theorem e84 (n : Nat) (a0 : Int) (a1 : Int) (a2 : Int) : f84 n (a0, a1, a2) =
  Option.bind (bif decide (a1 ≤ a0) then
    some (decide (a0 ≤ a2))
   else some false : Option (Bool)) fun x0 =>
  some (x0, ()) := by kernel_rfl
/- impl.EventOk -/
def c18 : TC :=
 (.seq (.rg [o1 3 (.a (.t 1)),
   o1 4 (.lit [.b] [.bool false])])
 (.seq (.seq (.join [⟨32, [.b], false⟩] 8589934528 none (.rg [o1 6 (.copy 0),
   ⟨false, [], [], .call 1 84 [.t 6, .c [.i .i64] [.int .i64 (1)], .c [.i .i64] [.int .i64 (3)]] .no, [7], (some 7), none⟩,
   o1 8 (.data .not [.t 7]),
   o1 9 (.copy 8),
   ⟨false, [], [], .det 1 (.idx .nil), [10], (some 10), some (3, false)⟩,
   ⟨false, [], [], .det 1 (.load 3 [] 0 (.t 10) 1 false), [11], (some 11), some (3, false)⟩,
   ⟨false, [], [], .call 1 84 [.t 11, .c [.i .i64] [.int .i64 (1)], .c [.i .i64] [.int .i64 (7)]] .no, [12], (some 12), some (3, false)⟩,
   ⟨false, [], [], .det 1 (.data .not [.t 12]), [13], (some 13), some (3, false)⟩,
   ⟨false, [], [], .pick 9 (.c (.bool true)) (.t 13), [14], (some 14), none⟩,
   o1 15 (.copy 14),
   ⟨false, [], [], .det 1 (.idx .nil), [16], (some 16), some (9, false)⟩,
   ⟨false, [], [], .det 1 (.load 3 [] 1 (.t 16) 1 false), [17], (some 17), some (9, false)⟩,
   ⟨false, [], [], .det 1 (.copy 0), [18], (some 18), some (9, false)⟩,
   ⟨false, [], [], .call 1 84 [.t 17, .c [.i .i64] [.int .i64 (0)], .t 18] .no, [19], (some 19), some (9, false)⟩,
   ⟨false, [], [], .det 1 (.data .not [.t 19]), [20], (some 20), some (9, false)⟩,
   ⟨false, [], [], .pick 15 (.c (.bool true)) (.t 20), [21], (some 21), none⟩,
   o1 22 (.copy 21),
   ⟨false, [], [], .det 1 (.idx .nil), [23], (some 23), some (16, false)⟩,
   ⟨false, [], [], .det 1 (.load 3 [] 2 (.t 23) 1 false), [24], (some 24), some (16, false)⟩,
   ⟨false, [], [], .det 1 (.data (.bin .lss) [.t 24, .c (.int .i64 (0))]), [25], (some 25), some (16, false)⟩,
   ⟨false, [], [], .pick 22 (.c (.bool true)) (.t 25), [26], (some 26), none⟩,
   o1 27 (.copy 26),
   ⟨false, [], [], .det 1 (.idx .nil), [28], (some 28), some (21, false)⟩,
   ⟨false, [], [], .det 1 (.load 3 [] 8 (.t 28) 1 false), [29], (some 29), some (21, false)⟩,
   ⟨false, [], [], .det 1 (.len 29), [30], (some 30), some (21, false)⟩,
   ⟨false, [], [], .det 1 (.data (.bin .gtr) [.t 30, .c (.int .i64 (30))]), [31], (some 31), some (21, false)⟩,
   ⟨false, [], [], .pick 27 (.c (.bool true)) (.t 31), [32], (some 32), none⟩]))
 (.cond (.t 32)
  (.seq (.rg [o1 4 (.lit [.b] [.bool false])])
  .ret)
  .skip))
 (.seq (.rg [o1 33 (.idx .nil),
   o1 34 (.load 3 [] 3 (.t 33) 4 false),
   ⟨false, [], [], .det 2 (.a (.c [.i .i64, .i .i64, .i .i64, .i .i64] [.int .i64 (0), .int .i64 (0), .int .i64 (0), .int .i64 (0)])), [5, 1000000001], (some 5), none⟩,
   ⟨false, [], [], .det 1 (.store 5 [] 0 .nil (.t 34)), [5], none, none⟩])
 (.seq (.join [⟨4, [.b], false⟩] 288230341791973392 none (.rg [o1 35 (.idx .nil),
   o1 36 (.load 3 [] 0 (.t 35) 1 false),
   o1 37 (.data (.bin .neq) [.t 36, .c (.int .i64 (1))]),
   o1 38 (.copy 37),
   ⟨false, [], [], .det 1 (.idx .nil), [39], (some 39), some (3, false)⟩,
   ⟨false, [], [], .det 1 (.load 5 [] 0 (.t 39) 1 false), [40], (some 40), some (3, false)⟩,
   ⟨false, [], [], .call 1 84 [.t 40, .c [.i .i64] [.int .i64 (1)], .c [.i .i64] [.int .i64 (100000)]] .no, [41], (some 41), some (3, false)⟩,
   ⟨false, [], [], .det 1 (.copy 41), [42], (some 42), some (3, false)⟩,
   ⟨false, [], [], .det 1 (.idx .nil), [43], (some 43), some (7, true)⟩,
   ⟨false, [], [], .det 1 (.load 5 [] 1 (.t 43) 1 false), [44], (some 44), some (7, true)⟩,
   ⟨false, [], [], .call 1 84 [.t 44, .c [.i .i64] [.int .i64 (0)], .c [.i .i64] [.int .i64 (100000)]] .no, [45], (some 45), some (7, true)⟩,
   ⟨false, [], [], .pick 42 (.t 45) (.c (.bool false)), [46], (some 46), some (3, false)⟩,
   ⟨false, [], [], .det 1 (.copy 46), [47], (some 47), some (3, false)⟩,
   ⟨false, [], [], .det 1 (.idx .nil), [48], (some 48), some (12, true)⟩,
   ⟨false, [], [], .det 1 (.load 5 [] 2 (.t 48) 1 false), [49], (some 49), some (12, true)⟩,
   ⟨false, [], [], .call 1 84 [.t 49, .c [.i .i64] [.int .i64 (0)], .c [.i .i64] [.int .i64 (100000)]] .no, [50], (some 50), some (12, true)⟩,
   ⟨false, [], [], .pick 47 (.t 50) (.c (.bool false)), [51], (some 51), some (3, false)⟩,
   ⟨false, [], [], .det 1 (.copy 51), [52], (some 52), some (3, false)⟩,
   ⟨false, [], [], .det 1 (.idx .nil), [53], (some 53), some (17, true)⟩,
   ⟨false, [], [], .det 1 (.load 5 [] 3 (.t 53) 1 false), [54], (some 54), some (17, true)⟩,
   ⟨false, [], [], .call 1 84 [.t 54, .c [.i .i64] [.int .i64 (0)], .c [.i .i64] [.int .i64 (100000)]] .no, [55], (some 55), some (17, true)⟩,
   ⟨false, [], [], .pick 52 (.t 55) (.c (.bool false)), [56], (some 56), some (3, false)⟩,
   ⟨false, [], [], .pick 38 (.c (.bool true)) (.t 56), [57], (some 57), none⟩,
   o1 4 (.copy 57)]))
 .ret))))
def s18 : Sig := ⟨[.rd false [.d], .rd true [.d, .d, .d, .d, .d, .d, .d, .d, .sl (.own none) [.d]]], (.one false [.d])⟩
noncomputable def E18 : TEnv := envOf [(84, p84)]
noncomputable def f18 (n : Nat) : Int × (Int × Int × Int × Int × Int × Int × Int × Bool × List (Int)) → Option ((Bool) × (Unit)) := runFn n E18 c18 [[.i .i64], [.i .i64, .i .i64, .i .i64, .i .i64, .i .i64, .i .i64, .i .i64, .b, .sl [.i .i64]]] [.b] [] [4] .no
noncomputable def g18 : Int × (Int × Int × Int × Int × Int × Int × Int × Bool × List (Int)) → Option ((Bool) × (Unit)) := f18 BIG
noncomputable def p18 : TSp := ⟨s18, [[.i .i64], [.i .i64, .i .i64, .i .i64, .i .i64, .i .i64, .i .i64, .i .i64, .b, .sl [.i .i64]]], [.b], [], Ou.j .no, g18⟩
theorem k18 : chkW PG E18 18 s18 (c18.ht 58) .no = some (c18.wc E18, [4]) := by kernel_rfl
theorem ok18 : p18.Ok PG 18 := mkOk (env_cons ok84 (env_nil PG)) k18 (by kernel_rfl)
theorem e18 (n : Nat) (a0 : Int) (a1 : Int × Int × Int × Int × Int × Int × Int × Bool × List (Int)) : f18 n (a0, a1) =
  Option.bind (Option.bind (g84 (a0, (1 : Int), (3 : Int))) fun r0 =>
   bif !r0.1 then
    some true
   else Option.bind (g84 (a1.1, (1 : Int), (7 : Int))) fun r1 =>
   bif !r1.1 then
    some true
   else Option.bind (g84 (a1.2.1, (0 : Int), a0)) fun r2 =>
   bif !r2.1 then
    some true
   else bif decide (a1.2.2.1 < (0 : Int)) then
    some true
   else some (decide ((30 : Int) < (a1.2.2.2.2.2.2.2.2.length : Int))) : Option (Bool)) fun x3 =>
  bif x3 then
   some (false, ())
  else Option.bind (bif !decide (a1.1 = (1 : Int)) then
    some true
   else Option.bind (g84 (a1.2.2.2.1, (1 : Int), (100000 : Int))) fun r4 =>
   bif r4.1 then
    Option.bind (g84 (a1.2.2.2.2.1, (0 : Int), (100000 : Int))) fun r5 =>
    bif r5.1 then
     Option.bind (g84 (a1.2.2.2.2.2.1, (0 : Int), (100000 : Int))) fun r6 =>
     bif r6.1 then
      Option.bind (g84 (a1.2.2.2.2.2.2.1, (0 : Int), (100000 : Int))) fun r7 =>
      some r7.1
     else some false
    else some false
   else some false : Option (Bool)) fun x8 =>
  some (x8, ()) := by kernel_rfl
/- laws.eqAsk -/
def c85 : TC :=
 (.seq (.rg [o1 2 (.a (.t 0)),
   o1 3 (.a (.t 1)),
   o1 4 (.lit [.b] [.bool false])])
 (.seq (.seq (.rg [o1 5 (.idx .nil),
   o1 6 (.load 2 [] 0 (.t 5) 1 false),
   o1 7 (.idx .nil),
   o1 8 (.load 3 [] 0 (.t 7) 1 false),
   o1 9 (.data (.bin .neq) [.t 6, .t 8])])
 (.cond (.t 9)
  (.seq (.rg [o1 4 (.lit [.b] [.bool false])])
  .ret)
  .skip))
 (.seq (.seq (.rg [o1 10 (.idx .nil),
   o1 11 (.load 2 [] 1 (.t 10) 1 false),
   o1 12 (.idx .nil),
   o1 13 (.load 3 [] 1 (.t 12) 1 false),
   o1 14 (.data (.bin .neq) [.t 11, .t 13])])
 (.cond (.t 14)
  (.seq (.rg [o1 4 (.lit [.b] [.bool false])])
  .ret)
  .skip))
 (.seq (.seq (.rg [o1 15 (.idx .nil),
   o1 16 (.load 2 [] 2 (.t 15) 1 false),
   o1 17 (.idx .nil),
   o1 18 (.load 3 [] 2 (.t 17) 1 false),
   o1 19 (.data (.bin .neq) [.t 16, .t 18])])
 (.cond (.t 19)
  (.seq (.rg [o1 4 (.lit [.b] [.bool false])])
  .ret)
  .skip))
 (.seq (.seq (.rg [o1 20 (.idx .nil),
   o1 21 (.load 2 [] 3 (.t 20) 1 false),
   o1 22 (.idx .nil),
   o1 23 (.load 3 [] 3 (.t 22) 1 false),
   o1 24 (.data (.bin .neq) [.t 21, .t 23])])
 (.cond (.t 24)
  (.seq (.rg [o1 4 (.lit [.b] [.bool false])])
  .ret)
  .skip))
 (.seq (.rg [o1 4 (.lit [.b] [.bool true])])
 .ret))))))
def s85 : Sig := ⟨[.rd true [.d, .d, .d, .d], .rd true [.d, .d, .d, .d]], (.one false [.d])⟩
noncomputable def E85 : TEnv := envOf []
noncomputable def f85 (n : Nat) : (Int × Int × Int × Int) × (Int × Int × Int × Int) → Option ((Bool) × (Unit)) := runFn n E85 c85 [[.i .i64, .i .i64, .i .i64, .i .i64], [.i .i64, .i .i64, .i .i64, .i .i64]] [.b] [] [4] .no
noncomputable def g85 : (Int × Int × Int × Int) × (Int × Int × Int × Int) → Option ((Bool) × (Unit)) := f85 BIG
noncomputable def p85 : TSp := ⟨s85, [[.i .i64, .i .i64, .i .i64, .i .i64], [.i .i64, .i .i64, .i .i64, .i .i64]], [.b], [], Ou.j .no, g85⟩
theorem k85 : chkW PG E85 85 s85 (c85.ht 25) .no = some (c85.wc E85, [4]) := by kernel_rfl
theorem ok85 : p85.Ok PG 85 := mkOk (env_nil PG) k85 (by kernel_rfl)
theorem e85 (n : Nat) (a0 : Int × Int × Int × Int) (a1 : Int × Int × Int × Int) : f85 n (a0, a1) =
  bif !decide (a0.1 = a1.1) then
   some (false, ())
  else bif !decide (a0.2.1 = a1.2.1) then
   some (false, ())
  else bif !decide (a0.2.2.1 = a1.2.2.1) then
   some (false, ())
  else bif !decide (a0.2.2.2 = a1.2.2.2) then
   some (false, ())
  else some (true, ()) := by kernel_rfl
/- laws.eqIntS -/
def c29 : TC :=
 (.seq (.rg [o1 4 (.lit [.b] [.bool false])])
 (.seq (.seq (.rg [o1 6 (.copy 0),
   o1 7 (.len 6),
   o1 8 (.copy 1),
   o1 9 (.len 8),
   o1 10 (.data (.bin .neq) [.t 7, .t 9])])
 (.cond (.t 10)
  (.seq (.rg [o1 4 (.lit [.b] [.bool false])])
  .ret)
  .skip))
 (.seq (.join [] 67106864 (some [⟨4, [.b], false⟩]) (.seq (.rg [o1 5 (.lit [.i .i64] [.int .i64 (0)])])
 (.block 0 (.loop [⟨5, [.i .i64], false⟩] 67106864
  (.seq (.seq (.rg [o1 11 (.copy 5),
    o1 12 (.copy 0),
    o1 13 (.len 12),
    o1 14 (.data (.bin .lss) [.t 11, .t 13])])
  (.cond (.t 14)
   .skip
   (.exit 0)))
  (.seq (.block 1 (.seq (.rg [o1 17 (.copy 0),
    o1 18 (.copy 5),
    o1 19 (.index 17 (.t 18)),
    o1 20 (.load 17 [(0, 1)] 0 (.t 19) 1 false),
    o1 21 (.copy 1),
    o1 22 (.copy 5),
    o1 23 (.index 21 (.t 22)),
    o1 24 (.load 21 [(0, 1)] 0 (.t 23) 1 false),
    o1 25 (.data (.bin .neq) [.t 20, .t 24])])
  (.cond (.t 25)
   (.seq (.rg [o1 4 (.lit [.b] [.bool false])])
   .ret)
   .skip)))
  (.rg [o1 15 (.copy 5),
    o1 16 (.data (.bin .add) [.t 15, .c (.int .i64 (1))]),
    o1 5 (.copy 16)])))))))
 (.seq (.rg [o1 4 (.lit [.b] [.bool true])])
 .ret))))
def s29 : Sig := ⟨[.rd false [.sl (.own none) [.d]], .rd false [.sl (.own none) [.d]]], (.one false [.d])⟩
noncomputable def E29 : TEnv := envOf []
noncomputable def f29 (n : Nat) : List (Int) × List (Int) → Option ((Bool) × (Unit)) := runFn n E29 c29 [[.sl [.i .i64]], [.sl [.i .i64]]] [.b] [] [4] .no
noncomputable def g29 : List (Int) × List (Int) → Option ((Bool) × (Unit)) := f29 BIG
noncomputable def p29 : TSp := ⟨s29, [[.sl [.i .i64]], [.sl [.i .i64]]], [.b], [], Ou.j .no, g29⟩
theorem k29 : chkW PG E29 29 s29 (c29.ht 26) .no = some (c29.wc E29, [4]) := by kernel_rfl
theorem ok29 : p29.Ok PG 29 := mkOk (env_nil PG) k29 (by kernel_rfl)
theorem e29 (n : Nat) (a0 : List (Int)) (a1 : List (Int)) : f29 n (a0, a1) =
  bif !decide ((a0.length : Int) = (a1.length : Int)) then
   some (false, ())
  else Option.bind (loopT n (fun (self1 : Int → Option ((Unit) ⊕ (Bool))) (x0 : Int) =>
    bif decide (x0 < (a0.length : Int)) then
     bnd a0.length x0 fun n2 =>
     Option.bind a0[n2]? fun y3 =>
     bnd a1.length x0 fun n4 =>
     Option.bind a1[n4]? fun y5 =>
     bif !decide (y3 = y5) then
      some (Sum.inr false)
     else self1 (IntKind.wrap .i64 (x0 + (1 : Int)))
    else some (Sum.inl ())) (0 : Int) : Option ((Unit) ⊕ (Bool))) fun y => match y with
  | .inl x6 =>
   some (true, ())
  | .inr x6 =>
   some (x6, ()) := by kernel_rfl
/- laws.eqEvent -/
def c19 : TC :=
 (.seq (.rg [o1 2 (.a (.t 0)),
   o1 3 (.a (.t 1)),
   o1 4 (.lit [.b] [.bool false])])
 (.seq (.seq (.rg [o1 5 (.idx .nil),
   o1 6 (.load 2 [] 0 (.t 5) 1 false),
   o1 7 (.idx .nil),
   o1 8 (.load 3 [] 0 (.t 7) 1 false),
   o1 9 (.data (.bin .neq) [.t 6, .t 8])])
 (.cond (.t 9)
  (.seq (.rg [o1 4 (.lit [.b] [.bool false])])
  .ret)
  .skip))
 (.seq (.seq (.rg [o1 10 (.idx .nil),
   o1 11 (.load 2 [] 1 (.t 10) 1 false),
   o1 12 (.idx .nil),
   o1 13 (.load 3 [] 1 (.t 12) 1 false),
   o1 14 (.data (.bin .neq) [.t 11, .t 13])])
 (.cond (.t 14)
  (.seq (.rg [o1 4 (.lit [.b] [.bool false])])
  .ret)
  .skip))
 (.seq (.seq (.rg [o1 15 (.idx .nil),
   o1 16 (.load 2 [] 2 (.t 15) 1 false),
   o1 17 (.idx .nil),
   o1 18 (.load 3 [] 2 (.t 17) 1 false),
   o1 19 (.data (.bin .neq) [.t 16, .t 18])])
 (.cond (.t 19)
  (.seq (.rg [o1 4 (.lit [.b] [.bool false])])
  .ret)
  .skip))
 (.seq (.seq (.rg [o1 20 (.idx .nil),
   o1 21 (.load 2 [] 3 (.t 20) 4 false),
   o1 22 (.idx .nil),
   o1 23 (.load 3 [] 3 (.t 22) 4 false),
   ⟨false, [], [], .call 1 85 [.t 21, .t 23] .no, [24], (some 24), none⟩,
   o1 25 (.data .not [.t 24])])
 (.cond (.t 25)
  (.seq (.rg [o1 4 (.lit [.b] [.bool false])])
  .ret)
  .skip))
 (.seq (.seq (.rg [o1 26 (.idx .nil),
   o1 27 (.load 2 [] 7 (.t 26) 1 false),
   o1 28 (.idx .nil),
   o1 29 (.load 3 [] 7 (.t 28) 1 false),
   o1 30 (.data (.beq true) [.t 27, .t 29])])
 (.cond (.t 30)
  (.seq (.rg [o1 4 (.lit [.b] [.bool false])])
  .ret)
  .skip))
 (.seq (.seq (.rg [o1 31 (.idx .nil),
   o1 32 (.load 2 [] 8 (.t 31) 1 false),
   o1 33 (.idx .nil),
   o1 34 (.load 3 [] 8 (.t 33) 1 false),
   ⟨false, [], [], .call 1 29 [.t 32, .t 34] .no, [35], (some 35), none⟩,
   o1 36 (.data .not [.t 35])])
 (.cond (.t 36)
  (.seq (.rg [o1 4 (.lit [.b] [.bool false])])
  .ret)
  .skip))
 (.seq (.rg [o1 4 (.lit [.b] [.bool true])])
 .ret))))))))
def s19 : Sig := ⟨[.rd true [.d, .d, .d, .d, .d, .d, .d, .d, .sl (.own none) [.d]], .rd true [.d, .d, .d, .d, .d, .d, .d, .d, .sl (.own none) [.d]]], (.one false [.d])⟩
noncomputable def E19 : TEnv := envOf [(85, p85), (29, p29)]
noncomputable def f19 (n : Nat) : (Int × Int × Int × Int × Int × Int × Int × Bool × List (Int)) × (Int × Int × Int × Int × Int × Int × Int × Bool × List (Int)) → Option ((Bool) × (Unit)) := runFn n E19 c19 [[.i .i64, .i .i64, .i .i64, .i .i64, .i .i64, .i .i64, .i .i64, .b, .sl [.i .i64]], [.i .i64, .i .i64, .i .i64, .i .i64, .i .i64, .i .i64, .i .i64, .b, .sl [.i .i64]]] [.b] [] [4] .no
noncomputable def g19 : (Int × Int × Int × Int × Int × Int × Int × Bool × List (Int)) × (Int × Int × Int × Int × Int × Int × Int × Bool × List (Int)) → Option ((Bool) × (Unit)) := f19 BIG
noncomputable def p19 : TSp := ⟨s19, [[.i .i64, .i .i64, .i .i64, .i .i64, .i .i64, .i .i64, .i .i64, .b, .sl [.i .i64]], [.i .i64, .i .i64, .i .i64, .i .i64, .i .i64, .i .i64, .i .i64, .b, .sl [.i .i64]]], [.b], [], Ou.j .no, g19⟩
theorem k19 : chkW PG E19 19 s19 (c19.ht 37) .no = some (c19.wc E19, [4]) := by kernel_rfl
theorem ok19 : p19.Ok PG 19 := mkOk (env_cons ok85 (env_cons ok29 (env_nil PG))) k19 (by kernel_rfl)
theorem e19 (n : Nat) (a0 : Int × Int × Int × Int × Int × Int × Int × Bool × List (Int)) (a1 : Int × Int × Int × Int × Int × Int × Int × Bool × List (Int)) : f19 n (a0, a1) =
  bif !decide (a0.1 = a1.1) then
   some (false, ())
  else bif !decide (a0.2.1 = a1.2.1) then
   some (false, ())
  else bif !decide (a0.2.2.1 = a1.2.2.1) then
   some (false, ())
  else Option.bind (g85 ((a0.2.2.2.1, a0.2.2.2.2.1, a0.2.2.2.2.2.1, a0.2.2.2.2.2.2.1), (a1.2.2.2.1, a1.2.2.2.2.1, a1.2.2.2.2.2.1, a1.2.2.2.2.2.2.1))) fun r0 =>
  bif !r0.1 then
   some (false, ())
  else bif !(a0.2.2.2.2.2.2.2.1 == a1.2.2.2.2.2.2.2.1) then
   some (false, ())
  else Option.bind (g29 (a0.2.2.2.2.2.2.2.2, a1.2.2.2.2.2.2.2.2)) fun r1 =>
  bif !r1.1 then
   some (false, ())
  else some (true, ()) := by kernel_rfl
/- laws.FnExactEventOk -/
def c3 : TC :=
 (.seq (.rg [o1 3 (.a (.t 1)),
   o1 4 (.lit [.b] [.bool false])])
 (.seq (.rg [o1 5 (.lit [.i .i64] [.int .i64 (1048576)])])
 (.seq (.rg [o1 9 (.load 3 [] 0 .nil 9 false),
   o1 10 (.copy 5),
   ⟨false, [], [], .call 1 15 [.t 9, .t 10] .no, [11], (some 11), none⟩,
   o1 5 (.copy 11)])
 (.seq (.seq (.rg [o1 12 (.copy 5),
   o1 13 (.data (.bin .lss) [.t 12, .c (.int .i64 (0))])])
 (.cond (.t 13)
  (.seq (.rg [o1 4 (.lit [.b] [.bool true])])
  .ret)
  .skip))
 (.seq (.rg [o1 14 (.copy 0),
   o1 15 (.load 3 [] 0 .nil 9 false),
   ⟨false, [], [], .call 1 17 [.t 15] .no, [16], (some 16), none⟩,
   ⟨false, [], [], .call 1 16 [.t 14, .t 16] .no, [17], (some 17), none⟩,
   o1 6 (.copy 17)])
 (.seq (.rg [o1 18 (.load 3 [] 0 .nil 9 false),
   ⟨false, [], [], .call 1 17 [.t 18] .no, [19], (some 19), none⟩,
   ⟨false, [], [], .det 2 (.a (.c [.i .i64, .i .i64, .i .i64, .i .i64, .i .i64, .i .i64, .i .i64, .b, .sl [.i .i64]] [.int .i64 (0), .int .i64 (0), .int .i64 (0), .int .i64 (0), .int .i64 (0), .int .i64 (0), .int .i64 (0), .bool false, .slice none 0 0])), [7, 1000000001], (some 7), none⟩,
   ⟨false, [], [], .det 2 (.store 7 [] 0 .nil (.t 19)), [7, 19], none, none⟩])
 (.seq (.rg [o1 20 (.copy 0),
   o1 21 (.load 7 [] 0 .nil 9 true),
   ⟨false, [], [], .call 1 18 [.t 20, .t 21] .no, [22], (some 22), none⟩,
   o1 8 (.copy 22)])
 (.seq (.seq (.rg [o1 23 (.copy 8),
   o1 24 (.copy 6),
   o1 25 (.data (.beq true) [.t 23, .t 24])])
 (.cond (.t 25)
  (.seq (.rg [o1 4 (.lit [.b] [.bool false])])
  .ret)
  .skip))
 (.seq (.seq (.rg [o1 26 (.load 7 [] 0 .nil 9 true),
   o1 27 (.load 3 [] 0 .nil 9 false),
   ⟨false, [], [], .call 1 17 [.t 27] .no, [28], (some 28), none⟩,
   ⟨false, [], [], .call 1 19 [.t 26, .t 28] .no, [29], (some 29), none⟩,
   o1 30 (.data .not [.t 29])])
 (.cond (.t 30)
  (.seq (.rg [o1 4 (.lit [.b] [.bool false])])
  .ret)
  .skip))
 (.seq (.rg [o1 4 (.lit [.b] [.bool true])])
 .ret))))))))))
def s3 : Sig := ⟨[.rd false [.d], .rd true [.d, .d, .d, .d, .d, .d, .d, .d, .sl (.own none) [.d]]], (.one false [.d])⟩
noncomputable def E3 : TEnv := envOf [(15, p15), (17, p17), (16, p16), (18, p18), (19, p19)]
noncomputable def f3 (n : Nat) : Int × (Int × Int × Int × Int × Int × Int × Int × Bool × List (Int)) → Option ((Bool) × (Unit)) := runFn n E3 c3 [[.i .i64], [.i .i64, .i .i64, .i .i64, .i .i64, .i .i64, .i .i64, .i .i64, .b, .sl [.i .i64]]] [.b] [] [4] .no
noncomputable def g3 : Int × (Int × Int × Int × Int × Int × Int × Int × Bool × List (Int)) → Option ((Bool) × (Unit)) := f3 BIG
noncomputable def p3 : TSp := ⟨s3, [[.i .i64], [.i .i64, .i .i64, .i .i64, .i .i64, .i .i64, .i .i64, .i .i64, .b, .sl [.i .i64]]], [.b], [], Ou.j .no, g3⟩
theorem k3 : chkW PG E3 3 s3 (c3.ht 31) .no = some (c3.wc E3, [4]) := by kernel_rfl
theorem ok3 : p3.Ok PG 3 := mkOk (env_cons ok15 (env_cons ok17 (env_cons ok16 (env_cons ok18 (env_cons ok19 (env_nil PG)))))) k3 (by kernel_rfl)
theorem e3 (n : Nat) (a0 : Int) (a1 : Int × Int × Int × Int × Int × Int × Int × Bool × List (Int)) : f3 n (a0, a1) =
  Option.bind (g15 (a1, (1048576 : Int))) fun r0 =>
  bif decide (r0.1 < (0 : Int)) then
   some (true, ())
  else Option.bind (g17 a1) fun r1 =>
  Option.bind (g16 (a0, r1.1)) fun r2 =>
  Option.bind (g17 a1) fun r3 =>
  Option.bind (g18 (a0, (r3.1.1, r3.1.2.1, r3.1.2.2.1, r3.1.2.2.2.1, r3.1.2.2.2.2.1, r3.1.2.2.2.2.2.1, r3.1.2.2.2.2.2.2.1, r3.1.2.2.2.2.2.2.2.1, r3.1.2.2.2.2.2.2.2.2))) fun r4 =>
  bif !(r4.1 == r2.1) then
   some (false, ())
  else Option.bind (g17 a1) fun r5 =>
  Option.bind (g19 ((r3.1.1, r3.1.2.1, r3.1.2.2.1, r3.1.2.2.2.1, r3.1.2.2.2.2.1, r3.1.2.2.2.2.2.1, r3.1.2.2.2.2.2.2.1, r3.1.2.2.2.2.2.2.2.1, r3.1.2.2.2.2.2.2.2.2), r5.1)) fun r6 =>
  bif !r6.1 then
   some (false, ())
  else some (true, ()) := by kernel_rfl
end Go.Fw

/- Loops and whole numbers: what a loop computes, from what one round does. -/
namespace Go.Fw

theorem loop_rel {X B : Type} {F : (X → Option B) → X → Option B} (I : X → Prop) (μ : X → Nat) (Q : X → B → Prop)
    (h : ∀ self x, I x → (∀ y, I y → μ y < μ x → ∃ b, self y = some b ∧ Q y b) → ∃ b, F self x = some b ∧ Q x b) : ∀ {n : Nat} {x : X}, μ x < n → I x → ∃ b, loopT n F x = some b ∧ Q x b
  | 0, _, hn, _ => absurd hn (Nat.not_lt_zero _)
  | n + 1, x, hn, hi => h (it F n) x hi fun _ hy hm => loop_rel I μ Q h (n := n) (by omega) hy

theorem loop_eq {X B : Type} {F : (X → Option B) → X → Option B} (I : X → Prop) (μ : X → Nat) (R : X → B)
    (h : ∀ self x, I x → (∀ y, I y → μ y < μ x → self y = some (R y)) → F self x = some (R x)) {n : Nat} {x : X} (hn : μ x < n) (hi : I x) : loopT n F x = some (R x) := by
  obtain ⟨b, h1, h2⟩ := loop_rel (F := F) I μ (fun x b => b = R x) (fun self x hx hs => ⟨_, h self x hx fun y hy hm => by obtain ⟨b, h1, h2⟩ := hs y hy hm; rw [h1, h2], rfl⟩) hn hi
  rw [h1, h2]

theorem wr {n : Int} (h : -9223372036854775808 ≤ n) (h' : n ≤ 9223372036854775807) : IntKind.wrap .i64 n = n := by
  rw [IntKind.wrap_i64]; omega
theorem wr1 {i : Nat} (h : i < maxLen) : IntKind.wrap .i64 ((i : Int) + 1) = ((i + 1 : Nat) : Int) := by
  have : maxLen = 9223372036854775807 := by decide
  rw [wr (by omega) (by omega)]; rfl

theorem wf64 {n : Int} (h : (Lit.int .i64 n).wf = true) : -9223372036854775808 ≤ n ∧ n ≤ 9223372036854775807 := by
  simpa [Lit.wf, IntKind.min, IntKind.max, IntKind.signed, IntKind.bits] using h

theorem bnd_ok {B : Type} {len : Nat} {i : Int} {k : Nat → Option B} (h : 0 ≤ i) (h' : i < len) : bnd len i k = k i.toNat := by
  unfold bnd
  rw [if_pos ⟨h, by omega⟩]
theorem bnd_nat {B : Type} {len : Nat} {i : Nat} {k : Nat → Option B} (h' : i < len) : bnd len (i : Int) k = k i := by
  rw [bnd_ok (Int.natCast_nonneg i) (by omega)]
  simp

/-- A loop that copies a row. -/
theorem cpLoop {α : Type} (a : List α) (hl : a.length < 18446744073709551616) {z : α} {F : (List α × Int → Option (List α)) → List α × Int → Option (List α)}
    (hF : ∀ self out (i : Nat) y, out.length = a.length → a[i]? = some y → F self (out, (i : Int)) = self (out.set i y, ((i + 1 : Nat) : Int)))
    (hE : ∀ self out, out.length = a.length → F self (out, (a.length : Int)) = some out) : loopT BIG F (List.replicate a.length z, 0) = some a := by
  have := loop_eq (F := F) (fun x => ∃ i : Nat, x.2 = i ∧ i ≤ a.length ∧ x.1.length = a.length ∧ x.1.take i = a.take i) (fun x => a.length - x.2.toNat) (fun _ => a) (fun self x ⟨i, h1, h2, h3, h4⟩ hs => ?_) (n := BIG) (x := (List.replicate a.length z, 0)) (by simp; exact hl) ⟨0, rfl, by simp, by simp, by simp⟩
  · exact this
  · obtain ⟨out, j⟩ := x
    simp only at h1 h2 h3 h4
    subst h1
    by_cases hi : i < a.length
    · rw [hF self out i a[i] h3 (List.getElem?_eq_getElem hi)]
      refine hs _ ⟨i + 1, rfl, hi, by simpa using h3, ?_⟩ (by simp; omega)
      rw [List.take_set, List.take_succ_eq_append_getElem (by omega : i < out.length), List.take_succ_eq_append_getElem hi, h4, List.set_append_right _ _ (by simp; omega)]
      simp [Nat.min_eq_left h2]
    · have : i = a.length := by omega
      subst this
      rw [hE self out h3]
      rw [List.take_of_length_le (by omega), List.take_of_length_le (by omega)] at h4
      rw [h4]

/-- A loop that goes through a row, and is left at the first place where it is told so. -/
theorem allLoop {α B : Type} (a : List α) (hl : a.length < 18446744073709551616) {F : (Int → Option (Unit ⊕ B)) → Int → Option (Unit ⊕ B)} (p : Nat → Bool) (b : B)
    (hF : ∀ self (i : Nat) y, a[i]? = some y → F self (i : Int) = if p i then self ((i + 1 : Nat) : Int) else some (.inr b))
    (hE : ∀ self, F self (a.length : Int) = some (.inl ())) : loopT BIG F 0 = some (if ∀ i, i < a.length → p i = true then .inl () else .inr b) := by
  have hh := loop_rel (F := F) (fun x => ∃ i : Nat, x = i ∧ i ≤ a.length) (fun x => a.length - x.toNat) (fun x r => ((∀ i : Nat, x ≤ (i : Int) → i < a.length → p i = true) ∧ r = .inl ()) ∨ ((∃ i : Nat, i < a.length ∧ p i = false) ∧ r = .inr b)) (fun self x ⟨i, h1, h2⟩ hs => ?_) (n := BIG) (x := 0) (by simp; exact hl) ⟨0, rfl, by simp⟩
  · obtain ⟨r, hr, hq⟩ := hh
    rw [hr]
    congr 1
    rcases hq with ⟨h1, rfl⟩ | ⟨⟨i, h1, h2⟩, rfl⟩
    · rw [if_pos fun i hi => h1 i (by omega) hi]
    · rw [if_neg]
      intro h
      rw [h i h1] at h2; cases h2
  · subst h1
    by_cases hi : i < a.length
    · rw [hF self i a[i] (List.getElem?_eq_getElem hi)]
      cases hp : p i with
      | true =>
        rw [if_pos rfl]
        obtain ⟨r, hr, hq⟩ := hs _ ⟨i + 1, rfl, hi⟩ (by simp; omega)
        refine ⟨r, hr, ?_⟩
        rcases hq with ⟨h1, rfl⟩ | h1
        · refine .inl ⟨fun k hk hk' => ?_, rfl⟩
          by_cases h : k = i
          · subst h; exact hp
          · exact h1 k (by omega) hk'
        · exact .inr h1
      | false => exact ⟨_, rfl, .inr ⟨⟨i, hi, hp⟩, rfl⟩⟩
    · have : i = a.length := by omega
      subst this
      exact ⟨_, hE self, .inl ⟨fun k hk hk' => by omega, rfl⟩⟩

theorem maxLen_lt : maxLen < 18446744073709551616 := by decide

/-- Two rows that are looked at side by side. -/
theorem eqLoop {α B : Type} [DecidableEq α] (a b : List α) (hl : a.length ≤ maxLen) (hab : a.length = b.length) {F : (Int → Option (Unit ⊕ B)) → Int → Option (Unit ⊕ B)} (r : B)
    (hF : ∀ self (i : Nat) x y, a[i]? = some x → b[i]? = some y → F self (i : Int) = if x = y then self ((i + 1 : Nat) : Int) else some (.inr r))
    (hE : ∀ self, F self (a.length : Int) = some (.inl ())) : loopT BIG F 0 = some (if a = b then .inl () else .inr r) := by
  rw [allLoop a (Nat.lt_of_le_of_lt hl maxLen_lt) (fun i => decide (a[i]? = b[i]?)) r (fun self i y hy => ?_) hE]
  · congr 1
    by_cases h : a = b
    · subst h; simp
    · rw [if_neg h, if_neg]
      intro h'
      apply h
      apply List.ext_getElem? fun i => ?_
      by_cases hi : i < a.length
      · simpa using h' i hi
      · rw [List.getElem?_eq_none (by omega), List.getElem?_eq_none (by omega)]
  · have hi := (List.getElem?_eq_some_iff.1 hy).1
    have hb : b[i]? = some (b[i]'(by omega)) := List.getElem?_eq_getElem (by omega)
    rw [hF self i y _ hy hb, hy, hb]
    simp

/-- A loop that goes through a row and keeps an account. -/
theorem foldLoop {α S B : Type} (a : List α) (hl : a.length < 18446744073709551616) {F : (S × Int → Option B) → S × Int → Option B} (I : Nat → S → Prop) (st : S → α → S) (R : S → B) {s0 : S} (h0 : I 0 s0)
    (hI : ∀ i s y, a[i]? = some y → I i s → I (i + 1) (st s y)) (hF : ∀ self s (i : Nat) y, a[i]? = some y → I i s → F self (s, (i : Int)) = self (st s y, ((i + 1 : Nat) : Int)))
    (hE : ∀ self s, I a.length s → F self (s, (a.length : Int)) = some (R s)) : loopT BIG F (s0, 0) = some (R (a.foldl st s0)) := by
  have := loop_eq (F := F) (fun x => ∃ i : Nat, x.2 = i ∧ i ≤ a.length ∧ I i x.1) (fun x => a.length - x.2.toNat) (fun x => R ((a.drop x.2.toNat).foldl st x.1)) (fun self x ⟨i, h1, h2, h3⟩ hs => ?_) (n := BIG) (x := (s0, 0)) (by simp; exact hl) ⟨0, rfl, by simp, h0⟩
  · simpa using this
  · obtain ⟨s, j⟩ := x
    simp only at h1 h2 h3
    subst h1
    by_cases hi : i < a.length
    · have hy := List.getElem?_eq_getElem hi
      rw [hF self s i a[i] hy h3, hs _ ⟨i + 1, rfl, hi, hI _ _ _ hy h3⟩ (by simp; omega)]
      simp only [Int.toNat_natCast]
      rw [List.drop_eq_getElem_cons hi, List.foldl_cons]
    · have : i = a.length := by omega
      subst this
      rw [hE self s h3]
      simp

theorem set_take_drop {α : Type} {a t : List α} {i : Nat} {z : α} (ht : t.length = a.length) (hi : i < a.length) (hz : t[i]? = some z) : (t.take i ++ a.drop i).set i z = t.take (i + 1) ++ a.drop (i + 1) := by
  have hi' : i < t.length := by omega
  rw [List.getElem?_eq_getElem hi', Option.some.injEq] at hz
  subst hz
  rw [List.set_append_right _ _ (by simp; omega), List.drop_eq_getElem_cons hi, show i - (t.take i).length = 0 from by simp; omega, List.set_cons_zero, List.take_succ_eq_append_getElem hi', List.append_assoc]
  rfl

/-- A loop that writes a mark upon each of a row. -/
theorem markLoop {α : Type} (a t : List α) (ht : t.length = a.length) (hl : a.length < 18446744073709551616) (c : Nat → Int) {F : (List α × Int × Int → Option (List α × Int)) → List α × Int × Int → Option (List α × Int)}
    (hF : ∀ self out (i : Nat) y z, i < a.length → out.length = a.length → out[i]? = some y → a[i]? = some y → t[i]? = some z → F self (out, c i, (i : Int)) = self (out.set i z, c (i + 1), ((i + 1 : Nat) : Int)))
    (hE : ∀ self out, out.length = a.length → F self (out, c a.length, (a.length : Int)) = some (out, c a.length)) : loopT BIG F (a, c 0, 0) = some (t, c a.length) := by
  have := loop_eq (F := F) (fun x => ∃ i : Nat, x.2.2 = i ∧ i ≤ a.length ∧ x.2.1 = c i ∧ x.1 = t.take i ++ a.drop i) (fun x => a.length - x.2.2.toNat) (fun _ => (t, c a.length)) (fun self x ⟨i, h1, h2, h3, h4⟩ hs => ?_) (n := BIG) (x := (a, c 0, 0)) (by simp; exact hl) ⟨0, rfl, by simp, rfl, by simp⟩
  · exact this
  · obtain ⟨out, k, j⟩ := x
    simp only at h1 h2 h3 h4
    subst h1 h3
    have hlen : out.length = a.length := by rw [h4]; simp; omega
    by_cases hi : i < a.length
    · have hy := List.getElem?_eq_getElem hi
      have hz : t[i]? = some (t[i]'(by omega)) := List.getElem?_eq_getElem (by omega)
      have ho : out[i]? = a[i]? := by
        rw [h4, List.getElem?_append_right (by simp; omega)]
        simp [Nat.min_eq_left (show i ≤ t.length from by omega)]
      rw [hF self out i a[i] _ hi hlen (by rw [ho, hy]) hy hz]
      have e := set_take_drop ht hi hz
      rw [← h4] at e
      exact hs _ ⟨i + 1, rfl, hi, rfl, e⟩ (by simp; omega)
    · have : i = a.length := by omega
      subst this
      rw [hE self out hlen, h4]
      simp [List.take_of_length_le, ht]
end Go.Fw

namespace Go.Fw

theorem h81 (a : List Int) (l : Int) (hl : 0 ≤ l) (hl' : l ≤ 1048576) (ha : a.length ≤ maxLen) : g81 (a, l) = some (if (a.length : Int) ≤ l then l - a.length else -1, ()) := by
  have hm : maxLen = 9223372036854775807 := by decide
  show f81 BIG (a, l) = _
  rw [e81, wr (by omega) (by omega)]
  by_cases h : (a.length : Int) ≤ l
  · rw [if_pos h, decide_eq_false (by omega), cond_false]
  · rw [if_neg h, decide_eq_true (by omega), cond_true]

theorem h26 (a : List Int) (ha : a.length ≤ 1048576) : g26 a = some (a, ()) := by
  have hm : maxLen = 9223372036854775807 := by decide
  show f26 BIG a = _
  rw [e26, decide_eq_true (by omega), cond_true, decide_eq_true (by simp; omega), cond_true]
  simp only [Int.toNat_natCast]
  rw [cpLoop a (by omega)]
  · rfl
  · intro self out i y hl hy
    have hi := (List.getElem?_eq_some_iff.1 hy).1
    simp only [show ((i : Int) < (a.length : Int)) from by omega, decide_true, cond_true]
    rw [bnd_nat hi, hy, Option.bind_some, bnd_nat (by omega), List.getElem?_eq_getElem (by omega), Option.bind_some, wr1 (by omega)]
  · intro self out hl
    simp

theorem h83 (a : Int × Int × Int × Int) : g83 a = some (a, ()) := e83 BIG a

theorem h82 (a b c : Int) : g82 (a, b, c) = some (decide (b ≤ a) && decide (a ≤ c), ()) := by
  show f82 BIG _ = _
  rw [e82]
  cases decide (b ≤ a) <;> rfl
theorem h84 (a b c : Int) : g84 (a, b, c) = some (decide (b ≤ a) && decide (a ≤ c), ()) := by
  show f84 BIG _ = _
  rw [e84]
  cases decide (b ≤ a) <;> rfl

theorem h85 (a : Int × Int × Int × Int) : g85 (a, a) = some (true, ()) := by
  show f85 BIG _ = _
  rw [e85]
  simp

theorem h29 (a : List Int) (ha : a.length ≤ maxLen) : g29 (a, a) = some (true, ()) := by
  show f29 BIG _ = _
  rw [e29]
  simp only [decide_true, Bool.not_true, cond_false]
  rw [eqLoop a a ha rfl false]
  · simp
  · intro self i x y hx hy
    have hi := (List.getElem?_eq_some_iff.1 hy).1
    simp only [show ((i : Int) < (a.length : Int)) from by omega, decide_true, cond_true]
    rw [bnd_nat hi, hx, Option.bind_some, bnd_nat hi, hy, Option.bind_some, wr1 (by omega)]
    by_cases h : x = y <;> simp [h]
  · intro self
    simp

abbrev Ev := Int × Int × Int × Int × Int × Int × Int × Bool × List Int

theorem h15 (a : Ev) (ha : a.2.2.2.2.2.2.2.2.length ≤ maxLen) : g15 (a, 1048576) = some (if a.2.2.2.2.2.2.2.2.length ≤ 1048576 then 1048576 - (a.2.2.2.2.2.2.2.2.length : Int) else -1, ()) := by
  show f15 BIG (a, 1048576) = _
  rw [e15, h81 _ _ (by omega) (by omega) ha, Option.bind_some]
  by_cases h : (a.2.2.2.2.2.2.2.2.length : Int) ≤ 1048576
  · rw [if_pos h, if_pos (by omega), decide_eq_false (by simp; omega)]; rfl
  · rw [if_neg h, if_neg (by omega)]; rfl

theorem h17 (a : Ev) (ha : a.2.2.2.2.2.2.2.2.length ≤ 1048576) : g17 a = some (a, ()) := by
  show f17 BIG a = _
  rw [e17, h83, Option.bind_some, h26 _ ha]
  rfl

theorem h19 (a : Ev) (ha : a.2.2.2.2.2.2.2.2.length ≤ maxLen) : g19 (a, a) = some (true, ()) := by
  show f19 BIG _ = _
  rw [e19, h85, h29 _ ha]
  simp

theorem h16 (a : Int) (e : Ev) : ∃ b, g16 (a, e) = some (b, ()) ∧ g18 (a, e) = some (b, ()) := by
  have h1 : g16 (a, e) = f16 BIG (a, e) := rfl
  have h2 : g18 (a, e) = f18 BIG (a, e) := rfl
  have h : g18 (a, e) = g16 (a, e) := by
    rw [h1, h2, e16, e18]
    simp only [h82, h84]
  rw [h, h1, e16]
  suffices H : ∃ b, f16 BIG (a, e) = some (b, ()) by
    obtain ⟨b, hb⟩ := H
    rw [e16] at hb
    exact ⟨b, hb, hb⟩
  rw [e16]
  simp only [h82, Option.bind_some, Bool.cond_eq_ite]
  (repeat' (first | split | simp only [Option.bind_some])) <;> exact ⟨_, rfl⟩

theorem law3 (a : Int) (e : Ev) (ha : e.2.2.2.2.2.2.2.2.length ≤ maxLen) : g3 (a, e) = some (true, ()) := by
  show f3 BIG _ = _
  rw [e3, h15 e ha, Option.bind_some]
  by_cases h : e.2.2.2.2.2.2.2.2.length ≤ 1048576
  · rw [if_pos h, decide_eq_false (by simp; omega), cond_false]
    obtain ⟨b, h1, h2⟩ := h16 a e
    rw [h17 e h]
    simp only [Option.bind_some]
    rw [h1, h2, h19 e ha]
    simp
  · rw [if_neg h]; rfl
end Go.Fw

/- The given functions, as what they compute; each is shown to be what the code does. -/
namespace Go.Fw
/- laws.szEdgeS -/
def c25 : TC :=
 (.seq (.rg [o1 4 (.lit [.i .i64] [.int .i64 (0)])])
 (.seq (.rg [o1 5 (.copy 1),
   o1 6 (.copy 0),
   o1 7 (.len 6),
   o1 8 (.data (.bin .sub) [.t 5, .t 7]),
   o1 1 (.copy 8)])
 (.seq (.seq (.rg [o1 9 (.copy 1),
   o1 10 (.data (.bin .lss) [.t 9, .c (.int .i64 (0))])])
 (.cond (.t 10)
  (.seq (.rg [o1 4 (.lit [.i .i64] [.int .i64 (-1)])])
  .ret)
  .skip))
 (.seq (.rg [o1 11 (.copy 1),
   o1 4 (.copy 11)])
 .ret))))
def s25 : Sig := ⟨[.rd false [.sl (.own none) [.d, .d]], .rd false [.d]], (.one false [.d])⟩
noncomputable def E25 : TEnv := envOf []
noncomputable def f25 (n : Nat) : (List (Int × Int)) × Int → Option ((Int) × (Unit)) := runFn n E25 c25 [[.sl [.i .i64, .i .i64]], [.i .i64]] [.i .i64] [] [4] .no
noncomputable def g25 : (List (Int × Int)) × Int → Option ((Int) × (Unit)) := f25 BIG
noncomputable def p25 : TSp := ⟨s25, [[.sl [.i .i64, .i .i64]], [.i .i64]], [.i .i64], [], Ou.j .no, g25⟩
theorem k25 : chkW PG E25 25 s25 (c25.ht 12) .no = some (c25.wc E25, [4]) := by kernel_rfl
theorem ok25 : p25.Ok PG 25 := mkOk (env_nil PG) k25 (by kernel_rfl)
theorem e25 (n : Nat) (a0 : List (Int × Int)) (a1 : Int) : f25 n (a0, a1) =
  bif decide ((IntKind.wrap .i64 (a1 - (a0.length : Int))) < (0 : Int)) then
   some ((-1 : Int), ())
  else some (IntKind.wrap .i64 (a1 - (a0.length : Int)), ()) := by kernel_rfl
/- laws.toEdge -/
def c94 : TC :=
 (.seq (.rg [o1 1 (.a (.t 0)),
   ⟨false, [], [], .det 2 (.a (.c [.i .i64, .i .i64] [.int .i64 (0), .int .i64 (0)])), [2, 1000000001], (some 2), none⟩])
 (.seq (.rg [⟨false, [], [], .det 2 (.a (.c [.i .i64, .i .i64] [.int .i64 (0), .int .i64 (0)])), [3, 1000000001], (some 3), none⟩])
 (.seq (.rg [o1 4 (.idx .nil),
   o1 5 (.load 1 [] 0 (.t 4) 1 false),
   o1 6 (.idx .nil),
   ⟨false, [], [], .det 1 (.store 3 [] 0 (.t 6) (.t 5)), [3], none, none⟩])
 (.seq (.rg [o1 7 (.idx .nil),
   o1 8 (.load 1 [] 1 (.t 7) 1 false),
   o1 9 (.idx .nil),
   ⟨false, [], [], .det 1 (.store 3 [] 1 (.t 9) (.t 8)), [3], none, none⟩])
 (.seq (.rg [o1 10 (.load 3 [] 0 .nil 2 false),
   ⟨false, [], [], .det 1 (.store 2 [] 0 .nil (.t 10)), [2], none, none⟩])
 .ret)))))
def s94 : Sig := ⟨[.rd true [.d, .d]], (.one true [.d, .d])⟩
noncomputable def E94 : TEnv := envOf []
noncomputable def f94 (n : Nat) : (Int × Int) → Option ((Int × Int) × (Unit)) := runFn n E94 c94 [[.i .i64, .i .i64]] [.i .i64, .i .i64] [] [2] .no
noncomputable def g94 : (Int × Int) → Option ((Int × Int) × (Unit)) := f94 BIG
noncomputable def p94 : TSp := ⟨s94, [[.i .i64, .i .i64]], [.i .i64, .i .i64], [], Ou.j .no, g94⟩
theorem k94 : chkW PG E94 94 s94 (c94.ht 11) .no = some (c94.wc E94, [2]) := by kernel_rfl
theorem ok94 : p94.Ok PG 94 := mkOk (env_nil PG) k94 (by kernel_rfl)
theorem e94 (n : Nat) (a0 : Int × Int) : f94 n a0 =
  some ((a0.1, a0.2), ()) := by kernel_rfl
/- laws.toEdgeS -/
def c27 : TC :=
 (.seq (.rg [o1 2 (.lit [.sl [.i .i64, .i .i64]] [.slice none 0 0])])
 (.seq (.rg [o1 5 (.copy 0),
   o1 6 (.len 5),
   o1 7 (.make (.t 6) [.i .i64, .i .i64]),
   ⟨false, [], [], .det 2 (.copy 7), [3, 7], (some 3), none⟩])
 (.seq (.join [⟨3, [.sl [.i .i64, .i .i64]], false⟩] 4194072 none (.seq (.rg [o1 4 (.lit [.i .i64] [.int .i64 (0)])])
 (.block 0 (.loop [⟨3, [.sl [.i .i64, .i .i64]], false⟩, ⟨4, [.i .i64], false⟩] 4194072
  (.seq (.seq (.rg [o1 8 (.copy 4),
    o1 9 (.copy 0),
    o1 10 (.len 9),
    o1 11 (.data (.bin .lss) [.t 8, .t 10])])
  (.cond (.t 11)
   .skip
   (.exit 0)))
  (.seq (.block 1 (.rg [⟨true, [], [], .det 1 (.copy 3), [14], (some 14), none⟩,
    o1 15 (.copy 4),
    o1 16 (.copy 0),
    o1 17 (.copy 4),
    o1 18 (.index 16 (.t 17)),
    o1 19 (.load 16 [(0, 2)] 0 (.t 18) 2 false),
    ⟨false, [], [], .call 1 94 [.t 19] .no, [20], (some 20), none⟩,
    o1 21 (.index 14 (.t 15)),
    ⟨false, [], [], .det 1 (.store 3 [(0, 2)] 0 (.t 21) (.t 20)), [3, 14], none, none⟩]))
  (.rg [o1 12 (.copy 4),
    o1 13 (.data (.bin .add) [.t 12, .c (.int .i64 (1))]),
    o1 4 (.copy 13)])))))))
 (.seq (.rg [⟨false, [], [], .det 2 (.copy 3), [22, 3], (some 22), none⟩,
   ⟨false, [], [], .det 2 (.copy 22), [2, 22], (some 2), none⟩])
 .ret))))
def s27 : Sig := ⟨[.rd false [.sl (.own none) [.d, .d]]], (.one false [.sl (.own none) [.d, .d]])⟩
noncomputable def E27 : TEnv := envOf [(94, p94)]
noncomputable def f27 (n : Nat) : (List (Int × Int)) → Option ((List (Int × Int)) × (Unit)) := runFn n E27 c27 [[.sl [.i .i64, .i .i64]]] [.sl [.i .i64, .i .i64]] [] [2] .no
noncomputable def g27 : (List (Int × Int)) → Option ((List (Int × Int)) × (Unit)) := f27 BIG
noncomputable def p27 : TSp := ⟨s27, [[.sl [.i .i64, .i .i64]]], [.sl [.i .i64, .i .i64]], [], Ou.j .no, g27⟩
theorem k27 : chkW PG E27 27 s27 (c27.ht 23) .no = some (c27.wc E27, [2]) := by kernel_rfl
theorem ok27 : p27.Ok PG 27 := mkOk (env_cons ok94 (env_nil PG)) k27 (by kernel_rfl)
theorem e27 (n : Nat) (a0 : List (Int × Int)) : f27 n a0 =
  bif decide (0 ≤ (a0.length : Int)) then
   bif decide ((Int.toNat (a0.length : Int)) ≤ 4294967296) then
    Option.bind (loopT n (fun (self1 : (List (Int × Int)) × Int → Option ((List (Int × Int)))) (x0 : (List (Int × Int)) × Int) =>
      bif decide (x0.2 < (a0.length : Int)) then
       bnd a0.length x0.2 fun n2 =>
       Option.bind a0[n2]? fun y3 =>
       Option.bind (g94 y3) fun r4 =>
       bnd x0.1.length x0.2 fun n5 =>
       Option.bind x0.1[n5]? fun y6 =>
       self1 (x0.1.set n5 (r4.1.1, r4.1.2), IntKind.wrap .i64 (x0.2 + (1 : Int)))
      else some x0.1) (List.replicate (Int.toNat (a0.length : Int)) ((0 : Int), (0 : Int)), (0 : Int)) : Option ((List (Int × Int)))) fun x7 =>
    some (x7, ())
   else none
  else none := by kernel_rfl
/- spec.Inside -/
def c23 : TC :=
 (.seq (.rg [o1 6 (.lit [.sl [.i .i64, .i .i64]] [.slice none 0 0])])
 (.seq (.rg [o1 10 (.sli [.i .i64, .i .i64] []),
   ⟨false, [], [], .det 2 (.copy 10), [7, 10], (some 7), none⟩])
 (.seq (.join [⟨7, [.sl [.i .i64, .i .i64]], false⟩] 144115188075854720 none (.seq (.rg [o1 8 (.lit [.i .i64] [.int .i64 (0)])])
 (.block 0 (.loop [⟨7, [.sl [.i .i64, .i .i64]], false⟩, ⟨8, [.i .i64], false⟩] 144115188075854720
  (.seq (.seq (.rg [o1 11 (.copy 8),
    o1 12 (.copy 1),
    o1 13 (.len 12),
    o1 14 (.data (.bin .lss) [.t 11, .t 13])])
  (.cond (.t 14)
   .skip
   (.exit 0)))
  (.seq (.join [⟨7, [.sl [.i .i64, .i .i64]], false⟩] 144115188075725440 none (.block 1 (.seq (.rg [o1 17 (.copy 1),
    o1 18 (.copy 8),
    o1 19 (.index 17 (.t 18)),
    o1 20 (.load 17 [(0, 2)] 0 (.t 19) 2 false),
    ⟨false, [], [], .det 2 (.a (.c [.i .i64, .i .i64] [.int .i64 (0), .int .i64 (0)])), [9, 1000000001], (some 9), none⟩,
    ⟨false, [], [], .det 1 (.store 9 [] 0 .nil (.t 20)), [9], none, none⟩])
  (.seq (.join [⟨52, [.b], false⟩] 9007199252643840 none (.rg [o1 21 (.idx .nil),
    o1 22 (.load 9 [] 0 (.t 21) 1 false),
    o1 23 (.copy 0),
    o1 24 (.len 23),
    o1 25 (.data (.bin .sub) [.t 24, .c (.int .i64 (1))]),
    ⟨false, [], [], .call 1 82 [.t 22, .c [.i .i64] [.int .i64 (0)], .t 25] .no, [26], (some 26), none⟩,
    o1 27 (.copy 26),
    ⟨false, [], [], .det 1 (.idx .nil), [28], (some 28), some (6, true)⟩,
    ⟨false, [], [], .det 1 (.load 9 [] 1 (.t 28) 1 false), [29], (some 29), some (6, true)⟩,
    ⟨false, [], [], .det 1 (.copy 0), [30], (some 30), some (6, true)⟩,
    ⟨false, [], [], .det 1 (.len 30), [31], (some 31), some (6, true)⟩,
    ⟨false, [], [], .det 1 (.data (.bin .sub) [.t 31, .c (.int .i64 (1))]), [32], (some 32), some (6, true)⟩,
    ⟨false, [], [], .call 1 82 [.t 29, .c [.i .i64] [.int .i64 (0)], .t 32] .no, [33], (some 33), some (6, true)⟩,
    ⟨false, [], [], .pick 27 (.t 33) (.c (.bool false)), [34], (some 34), none⟩,
    o1 35 (.copy 34),
    ⟨false, [], [], .det 1 (.copy 0), [36], (some 36), some (14, true)⟩,
    ⟨false, [], [], .det 1 (.idx .nil), [37], (some 37), some (14, true)⟩,
    ⟨false, [], [], .det 1 (.load 9 [] 0 (.t 37) 1 false), [38], (some 38), some (14, true)⟩,
    ⟨false, [], [], .det 1 (.index 36 (.t 38)), [39], (some 39), some (14, true)⟩,
    ⟨false, [], [], .det 1 (.load 36 [(0, 1)] 0 (.t 39) 1 false), [40], (some 40), some (14, true)⟩,
    ⟨false, [], [], .det 1 (.copy 2), [41], (some 41), some (14, true)⟩,
    ⟨false, [], [], .det 1 (.data (.bin .eql) [.t 40, .t 41]), [42], (some 42), some (14, true)⟩,
    ⟨false, [], [], .pick 35 (.t 42) (.c (.bool false)), [43], (some 43), none⟩,
    o1 44 (.copy 43),
    ⟨false, [], [], .det 1 (.copy 0), [45], (some 45), some (23, true)⟩,
    ⟨false, [], [], .det 1 (.idx .nil), [46], (some 46), some (23, true)⟩,
    ⟨false, [], [], .det 1 (.load 9 [] 1 (.t 46) 1 false), [47], (some 47), some (23, true)⟩,
    ⟨false, [], [], .det 1 (.index 45 (.t 47)), [48], (some 48), some (23, true)⟩,
    ⟨false, [], [], .det 1 (.load 45 [(0, 1)] 0 (.t 48) 1 false), [49], (some 49), some (23, true)⟩,
    ⟨false, [], [], .det 1 (.copy 2), [50], (some 50), some (23, true)⟩,
    ⟨false, [], [], .det 1 (.data (.bin .eql) [.t 49, .t 50]), [51], (some 51), some (23, true)⟩,
    ⟨false, [], [], .pick 44 (.t 51) (.c (.bool false)), [52], (some 52), none⟩]))
  (.cond (.t 52)
   (.rg [⟨false, [], [], .det 2 (.copy 7), [53, 7], (some 53), none⟩,
     o1 54 (.load 9 [] 0 .nil 2 false),
     o1 55 (.sli [.i .i64, .i .i64] [.t 54]),
     ⟨false, [], [], .det 2 (.app (some 53) 55), [56, 53], (some 56), none⟩,
     ⟨false, [], [], .det 2 (.copy 56), [7, 56], (some 7), none⟩])
   .skip)))))
  (.rg [o1 15 (.copy 8),
    o1 16 (.data (.bin .add) [.t 15, .c (.int .i64 (1))]),
    o1 8 (.copy 16)])))))))
 (.seq (.rg [⟨false, [], [], .det 2 (.copy 7), [57, 7], (some 57), none⟩,
   ⟨false, [], [], .det 2 (.copy 57), [6, 57], (some 6), none⟩])
 .ret))))
def s23 : Sig := ⟨[.rd false [.sl (.own none) [.d]], .rd false [.sl (.own none) [.d, .d]], .rd false [.d]], (.one false [.sl (.own none) [.d, .d]])⟩
noncomputable def E23 : TEnv := envOf [(82, p82)]
noncomputable def f23 (n : Nat) : List (Int) × (List (Int × Int)) × Int → Option ((List (Int × Int)) × (Unit)) := runFn n E23 c23 [[.sl [.i .i64]], [.sl [.i .i64, .i .i64]], [.i .i64]] [.sl [.i .i64, .i .i64]] [] [6] .no
noncomputable def g23 : List (Int) × (List (Int × Int)) × Int → Option ((List (Int × Int)) × (Unit)) := f23 BIG
noncomputable def p23 : TSp := ⟨s23, [[.sl [.i .i64]], [.sl [.i .i64, .i .i64]], [.i .i64]], [.sl [.i .i64, .i .i64]], [], Ou.j .no, g23⟩
theorem k23 : chkW PG E23 23 s23 (c23.ht 58) .no = some (c23.wc E23, [6]) := by kernel_rfl
theorem ok23 : p23.Ok PG 23 := mkOk (env_cons ok82 (env_nil PG)) k23 (by kernel_rfl)
theorem e23 (n : Nat) (a0 : List (Int)) (a1 : List (Int × Int)) (a2 : Int) : f23 n (a0, a1, a2) =
  Option.bind (loopT n (fun (self1 : (List (Int × Int)) × Int → Option ((List (Int × Int)))) (x0 : (List (Int × Int)) × Int) =>
    bif decide (x0.2 < (a1.length : Int)) then
     Option.bind (bnd a1.length x0.2 fun n2 =>
      Option.bind a1[n2]? fun y3 =>
      Option.bind (Option.bind (g82 (y3.1, (0 : Int), IntKind.wrap .i64 ((a0.length : Int) - (1 : Int)))) fun r4 =>
       bif r4.1 then
        Option.bind (g82 (y3.2, (0 : Int), IntKind.wrap .i64 ((a0.length : Int) - (1 : Int)))) fun r5 =>
        bif r5.1 then
         bnd a0.length y3.1 fun n6 =>
         Option.bind a0[n6]? fun y7 =>
         bif decide (y7 = a2) then
          bnd a0.length y3.2 fun n8 =>
          Option.bind a0[n8]? fun y9 =>
          some (decide (y9 = a2))
         else some false
        else some false
       else some false : Option (Bool)) fun x10 =>
      bif x10 then
       bif decide (x0.1.length + ([(y3.1, y3.2)]).length ≤ 4294967296) then
        some (x0.1 ++ ([(y3.1, y3.2)]))
       else none
      else some x0.1 : Option ((List (Int × Int)))) fun x11 =>
     self1 (x11, IntKind.wrap .i64 (x0.2 + (1 : Int)))
    else some x0.1) ([], (0 : Int)) : Option ((List (Int × Int)))) fun x12 =>
  some (x12, ()) := by kernel_rfl
/- impl.owns -/
def c93 : TC :=
 (.seq (.rg [o1 6 (.lit [.b] [.bool false])])
 (.seq (.join [⟨6, [.b], false⟩] 1048512 none (.rg [o1 7 (.copy 1),
   o1 8 (.copy 0),
   o1 9 (.len 8),
   o1 10 (.data (.bin .sub) [.t 9, .c (.int .i64 (1))]),
   ⟨false, [], [], .call 1 84 [.t 7, .c [.i .i64] [.int .i64 (0)], .t 10] .no, [11], (some 11), none⟩,
   o1 12 (.copy 11),
   ⟨false, [], [], .det 1 (.copy 0), [13], (some 13), some (5, true)⟩,
   ⟨false, [], [], .det 1 (.copy 1), [14], (some 14), some (5, true)⟩,
   ⟨false, [], [], .det 1 (.index 13 (.t 14)), [15], (some 15), some (5, true)⟩,
   ⟨false, [], [], .det 1 (.load 13 [(0, 1)] 0 (.t 15) 1 false), [16], (some 16), some (5, true)⟩,
   ⟨false, [], [], .det 1 (.copy 2), [17], (some 17), some (5, true)⟩,
   ⟨false, [], [], .det 1 (.data (.bin .eql) [.t 16, .t 17]), [18], (some 18), some (5, true)⟩,
   ⟨false, [], [], .pick 12 (.t 18) (.c (.bool false)), [19], (some 19), none⟩,
   o1 6 (.copy 19)]))
 .ret))
def s93 : Sig := ⟨[.rd false [.sl (.own none) [.d]], .rd false [.d], .rd false [.d]], (.one false [.d])⟩
noncomputable def E93 : TEnv := envOf [(84, p84)]
noncomputable def f93 (n : Nat) : List (Int) × Int × Int → Option ((Bool) × (Unit)) := runFn n E93 c93 [[.sl [.i .i64]], [.i .i64], [.i .i64]] [.b] [] [6] .no
noncomputable def g93 : List (Int) × Int × Int → Option ((Bool) × (Unit)) := f93 BIG
noncomputable def p93 : TSp := ⟨s93, [[.sl [.i .i64]], [.i .i64], [.i .i64]], [.b], [], Ou.j .no, g93⟩
theorem k93 : chkW PG E93 93 s93 (c93.ht 20) .no = some (c93.wc E93, [6]) := by kernel_rfl
theorem ok93 : p93.Ok PG 93 := mkOk (env_cons ok84 (env_nil PG)) k93 (by kernel_rfl)
theorem e93 (n : Nat) (a0 : List (Int)) (a1 : Int) (a2 : Int) : f93 n (a0, a1, a2) =
  Option.bind (Option.bind (g84 (a1, (0 : Int), IntKind.wrap .i64 ((a0.length : Int) - (1 : Int)))) fun r0 =>
   bif r0.1 then
    bnd a0.length a1 fun n1 =>
    Option.bind a0[n1]? fun y2 =>
    some (decide (y2 = a2))
   else some false : Option (Bool)) fun x3 =>
  some (x3, ()) := by kernel_rfl
/- impl.Inside -/
def c22 : TC :=
 (.seq (.rg [o1 6 (.lit [.sl [.i .i64, .i .i64]] [.slice none 0 0])])
 (.seq (.rg [o1 7 (.lit [.sl [.i .i64, .i .i64]] [.slice none 0 0])])
 (.seq (.join [⟨7, [.sl [.i .i64, .i .i64]], false⟩] 8589934208 none (.seq (.rg [o1 10 (.copy 1),
   o1 11 (.len 10),
   o1 12 (.lit [.i .i64] [.int .i64 (0)])])
 (.block 0 (.loop [⟨7, [.sl [.i .i64, .i .i64]], false⟩, ⟨12, [.i .i64], false⟩] 8589931136
  (.seq (.rg [o1 13 (.data (.bin .lss) [.t 12, .t 11])])
  (.seq (.cond (.t 13)
   .skip
   (.exit 0))
  (.seq (.join [⟨7, [.sl [.i .i64, .i .i64]], false⟩] 4294951552 none (.block 1 (.seq (.rg [o1 14 (.index 10 (.t 12)),
    o1 15 (.load 10 [(0, 2)] 0 (.t 14) 2 false),
    ⟨false, [], [], .det 2 (.a (.c [.i .i64, .i .i64] [.int .i64 (0), .int .i64 (0)])), [9, 1000000001], (some 9), none⟩,
    ⟨false, [], [], .det 1 (.store 9 [] 0 .nil (.t 15)), [9], none, none⟩])
  (.seq (.join [⟨27, [.b], false⟩] 268369920 none (.rg [o1 16 (.copy 0),
    o1 17 (.idx .nil),
    o1 18 (.load 9 [] 0 (.t 17) 1 false),
    o1 19 (.copy 2),
    ⟨false, [], [], .call 1 93 [.t 16, .t 18, .t 19] .no, [20], (some 20), none⟩,
    o1 21 (.copy 20),
    ⟨false, [], [], .det 1 (.copy 0), [22], (some 22), some (5, true)⟩,
    ⟨false, [], [], .det 1 (.idx .nil), [23], (some 23), some (5, true)⟩,
    ⟨false, [], [], .det 1 (.load 9 [] 1 (.t 23) 1 false), [24], (some 24), some (5, true)⟩,
    ⟨false, [], [], .det 1 (.copy 2), [25], (some 25), some (5, true)⟩,
    ⟨false, [], [], .call 1 93 [.t 22, .t 24, .t 25] .no, [26], (some 26), some (5, true)⟩,
    ⟨false, [], [], .pick 21 (.t 26) (.c (.bool false)), [27], (some 27), none⟩]))
  (.cond (.t 27)
   (.rg [⟨false, [], [], .det 2 (.copy 7), [28, 7], (some 28), none⟩,
     o1 29 (.load 9 [] 0 .nil 2 false),
     o1 30 (.sli [.i .i64, .i .i64] [.t 29]),
     ⟨false, [], [], .det 2 (.app (some 28) 30), [31, 28], (some 31), none⟩,
     ⟨false, [], [], .det 2 (.copy 31), [7, 31], (some 7), none⟩])
   .skip)))))
  (.rg [o1 32 (.data (.bin .add) [.t 12, .c (.int .i64 (1))]),
    o1 12 (.copy 32)]))))))))
 (.seq (.rg [⟨false, [], [], .det 2 (.copy 7), [33, 7], (some 33), none⟩,
   ⟨false, [], [], .det 2 (.copy 33), [6, 33], (some 6), none⟩])
 .ret))))
def s22 : Sig := ⟨[.rd false [.sl (.own none) [.d]], .rd false [.sl (.own none) [.d, .d]], .rd false [.d]], (.one false [.sl (.own none) [.d, .d]])⟩
noncomputable def E22 : TEnv := envOf [(93, p93)]
noncomputable def f22 (n : Nat) : List (Int) × (List (Int × Int)) × Int → Option ((List (Int × Int)) × (Unit)) := runFn n E22 c22 [[.sl [.i .i64]], [.sl [.i .i64, .i .i64]], [.i .i64]] [.sl [.i .i64, .i .i64]] [] [6] .no
noncomputable def g22 : List (Int) × (List (Int × Int)) × Int → Option ((List (Int × Int)) × (Unit)) := f22 BIG
noncomputable def p22 : TSp := ⟨s22, [[.sl [.i .i64]], [.sl [.i .i64, .i .i64]], [.i .i64]], [.sl [.i .i64, .i .i64]], [], Ou.j .no, g22⟩
theorem k22 : chkW PG E22 22 s22 (c22.ht 34) .no = some (c22.wc E22, [6]) := by kernel_rfl
theorem ok22 : p22.Ok PG 22 := mkOk (env_cons ok93 (env_nil PG)) k22 (by kernel_rfl)
theorem e22 (n : Nat) (a0 : List (Int)) (a1 : List (Int × Int)) (a2 : Int) : f22 n (a0, a1, a2) =
  Option.bind (loopT n (fun (self1 : (List (Int × Int)) × Int → Option ((List (Int × Int)))) (x0 : (List (Int × Int)) × Int) =>
    bif decide (x0.2 < (a1.length : Int)) then
     Option.bind (bnd a1.length x0.2 fun n2 =>
      Option.bind a1[n2]? fun y3 =>
      Option.bind (Option.bind (g93 (a0, y3.1, a2)) fun r4 =>
       bif r4.1 then
        Option.bind (g93 (a0, y3.2, a2)) fun r5 =>
        some r5.1
       else some false : Option (Bool)) fun x6 =>
      bif x6 then
       bif decide (x0.1.length + ([(y3.1, y3.2)]).length ≤ 4294967296) then
        some (x0.1 ++ ([(y3.1, y3.2)]))
       else none
      else some x0.1 : Option ((List (Int × Int)))) fun x7 =>
     self1 (x7, IntKind.wrap .i64 (x0.2 + (1 : Int)))
    else some x0.1) ([], (0 : Int)) : Option ((List (Int × Int)))) fun x8 =>
  some (x8, ()) := by kernel_rfl
/- laws.eqEdge -/
def c95 : TC :=
 (.seq (.rg [o1 2 (.a (.t 0)),
   o1 3 (.a (.t 1)),
   o1 4 (.lit [.b] [.bool false])])
 (.seq (.seq (.rg [o1 5 (.idx .nil),
   o1 6 (.load 2 [] 0 (.t 5) 1 false),
   o1 7 (.idx .nil),
   o1 8 (.load 3 [] 0 (.t 7) 1 false),
   o1 9 (.data (.bin .neq) [.t 6, .t 8])])
 (.cond (.t 9)
  (.seq (.rg [o1 4 (.lit [.b] [.bool false])])
  .ret)
  .skip))
 (.seq (.seq (.rg [o1 10 (.idx .nil),
   o1 11 (.load 2 [] 1 (.t 10) 1 false),
   o1 12 (.idx .nil),
   o1 13 (.load 3 [] 1 (.t 12) 1 false),
   o1 14 (.data (.bin .neq) [.t 11, .t 13])])
 (.cond (.t 14)
  (.seq (.rg [o1 4 (.lit [.b] [.bool false])])
  .ret)
  .skip))
 (.seq (.rg [o1 4 (.lit [.b] [.bool true])])
 .ret))))
def s95 : Sig := ⟨[.rd true [.d, .d], .rd true [.d, .d]], (.one false [.d])⟩
noncomputable def E95 : TEnv := envOf []
noncomputable def f95 (n : Nat) : (Int × Int) × (Int × Int) → Option ((Bool) × (Unit)) := runFn n E95 c95 [[.i .i64, .i .i64], [.i .i64, .i .i64]] [.b] [] [4] .no
noncomputable def g95 : (Int × Int) × (Int × Int) → Option ((Bool) × (Unit)) := f95 BIG
noncomputable def p95 : TSp := ⟨s95, [[.i .i64, .i .i64], [.i .i64, .i .i64]], [.b], [], Ou.j .no, g95⟩
theorem k95 : chkW PG E95 95 s95 (c95.ht 15) .no = some (c95.wc E95, [4]) := by kernel_rfl
theorem ok95 : p95.Ok PG 95 := mkOk (env_nil PG) k95 (by kernel_rfl)
theorem e95 (n : Nat) (a0 : Int × Int) (a1 : Int × Int) : f95 n (a0, a1) =
  bif !decide (a0.1 = a1.1) then
   some (false, ())
  else bif !decide (a0.2 = a1.2) then
   some (false, ())
  else some (true, ()) := by kernel_rfl
/- laws.eqEdgeS -/
def c28 : TC :=
 (.seq (.rg [o1 4 (.lit [.b] [.bool false])])
 (.seq (.seq (.rg [o1 6 (.copy 0),
   o1 7 (.len 6),
   o1 8 (.copy 1),
   o1 9 (.len 8),
   o1 10 (.data (.bin .neq) [.t 7, .t 9])])
 (.cond (.t 10)
  (.seq (.rg [o1 4 (.lit [.b] [.bool false])])
  .ret)
  .skip))
 (.seq (.join [] 134215728 (some [⟨4, [.b], false⟩]) (.seq (.rg [o1 5 (.lit [.i .i64] [.int .i64 (0)])])
 (.block 0 (.loop [⟨5, [.i .i64], false⟩] 134215728
  (.seq (.seq (.rg [o1 11 (.copy 5),
    o1 12 (.copy 0),
    o1 13 (.len 12),
    o1 14 (.data (.bin .lss) [.t 11, .t 13])])
  (.cond (.t 14)
   .skip
   (.exit 0)))
  (.seq (.block 1 (.seq (.rg [o1 17 (.copy 0),
    o1 18 (.copy 5),
    o1 19 (.index 17 (.t 18)),
    o1 20 (.load 17 [(0, 2)] 0 (.t 19) 2 false),
    o1 21 (.copy 1),
    o1 22 (.copy 5),
    o1 23 (.index 21 (.t 22)),
    o1 24 (.load 21 [(0, 2)] 0 (.t 23) 2 false),
    ⟨false, [], [], .call 1 95 [.t 20, .t 24] .no, [25], (some 25), none⟩,
    o1 26 (.data .not [.t 25])])
  (.cond (.t 26)
   (.seq (.rg [o1 4 (.lit [.b] [.bool false])])
   .ret)
   .skip)))
  (.rg [o1 15 (.copy 5),
    o1 16 (.data (.bin .add) [.t 15, .c (.int .i64 (1))]),
    o1 5 (.copy 16)])))))))
 (.seq (.rg [o1 4 (.lit [.b] [.bool true])])
 .ret))))
def s28 : Sig := ⟨[.rd false [.sl (.own none) [.d, .d]], .rd false [.sl (.own none) [.d, .d]]], (.one false [.d])⟩
noncomputable def E28 : TEnv := envOf [(95, p95)]
noncomputable def f28 (n : Nat) : (List (Int × Int)) × (List (Int × Int)) → Option ((Bool) × (Unit)) := runFn n E28 c28 [[.sl [.i .i64, .i .i64]], [.sl [.i .i64, .i .i64]]] [.b] [] [4] .no
noncomputable def g28 : (List (Int × Int)) × (List (Int × Int)) → Option ((Bool) × (Unit)) := f28 BIG
noncomputable def p28 : TSp := ⟨s28, [[.sl [.i .i64, .i .i64]], [.sl [.i .i64, .i .i64]]], [.b], [], Ou.j .no, g28⟩
theorem k28 : chkW PG E28 28 s28 (c28.ht 27) .no = some (c28.wc E28, [4]) := by kernel_rfl
theorem ok28 : p28.Ok PG 28 := mkOk (env_cons ok95 (env_nil PG)) k28 (by kernel_rfl)
theorem e28 (n : Nat) (a0 : List (Int × Int)) (a1 : List (Int × Int)) : f28 n (a0, a1) =
  bif !decide ((a0.length : Int) = (a1.length : Int)) then
   some (false, ())
  else Option.bind (loopT n (fun (self1 : Int → Option ((Unit) ⊕ (Bool))) (x0 : Int) =>
    bif decide (x0 < (a0.length : Int)) then
     bnd a0.length x0 fun n2 =>
     Option.bind a0[n2]? fun y3 =>
     bnd a1.length x0 fun n4 =>
     Option.bind a1[n4]? fun y5 =>
     Option.bind (g95 (y3, y5)) fun r6 =>
     bif !r6.1 then
      some (Sum.inr false)
     else self1 (IntKind.wrap .i64 (x0 + (1 : Int)))
    else some (Sum.inl ())) (0 : Int) : Option ((Unit) ⊕ (Bool))) fun y => match y with
  | .inl x7 =>
   some (true, ())
  | .inr x7 =>
   some (x7, ()) := by kernel_rfl
/- laws.markIntS -/
def c30 : TC :=
 (.seq (.rg [o1 4 (.lit [.i .i64] [.int .i64 (0)])])
 (.seq (.join [⟨0, [.sl [.i .i64]], false⟩, ⟨1, [.i .i64], false⟩] 262115 none (.seq (.rg [o1 5 (.lit [.i .i64] [.int .i64 (0)])])
 (.block 0 (.loop [⟨0, [.sl [.i .i64]], false⟩, ⟨1, [.i .i64], false⟩, ⟨5, [.i .i64], false⟩] 262115
  (.seq (.seq (.rg [o1 6 (.copy 5),
    ⟨true, [], [], .det 1 (.copy 0), [7], (some 7), none⟩,
    o1 8 (.len 7),
    o1 9 (.data (.bin .lss) [.t 6, .t 8])])
  (.cond (.t 9)
   .skip
   (.exit 0)))
  (.seq (.block 1 (.seq (.rg [⟨true, [], [], .det 1 (.copy 0), [12], (some 12), none⟩,
    o1 13 (.copy 5),
    o1 14 (.copy 1),
    o1 15 (.index 12 (.t 13)),
    ⟨false, [], [], .det 1 (.store 0 [(0, 1)] 0 (.t 15) (.t 14)), [0, 7, 12], none, none⟩])
  (.rg [o1 16 (.copy 1),
    o1 17 (.data (.bin .add) [.t 16, .c (.int .i64 (1))]),
    o1 1 (.copy 17)])))
  (.rg [o1 10 (.copy 5),
    o1 11 (.data (.bin .add) [.t 10, .c (.int .i64 (1))]),
    o1 5 (.copy 11)])))))))
 (.seq (.rg [o1 18 (.copy 1),
   o1 4 (.copy 18)])
 .ret)))
def s30 : Sig := ⟨[.mt false [.sl (.own none) [.d]], .rd false [.d]], (.one false [.d])⟩
noncomputable def E30 : TEnv := envOf []
noncomputable def f30 (n : Nat) : List (Int) × Int → Option ((Int) × (List (Int))) := runFn n E30 c30 [[.sl [.i .i64]], [.i .i64]] [.i .i64] [.sl [.i .i64]] [4] (.mt 0 0 0)
noncomputable def g30 : List (Int) × Int → Option ((Int) × (List (Int))) := f30 BIG
noncomputable def p30 : TSp := ⟨s30, [[.sl [.i .i64]], [.i .i64]], [.i .i64], [.sl [.i .i64]], Ou.j (.mt 0 0 0), g30⟩
theorem k30 : chkW PG E30 30 s30 (c30.ht 19) (.mt 0 0 0) = some (c30.wc E30, [4]) := by kernel_rfl
theorem ok30 : p30.Ok PG 30 := mkOk (env_nil PG) k30 (by kernel_rfl)
theorem e30 (n : Nat) (a0 : List (Int)) (a1 : Int) : f30 n (a0, a1) =
  Option.bind (loopT n (fun (self1 : (List (Int)) × Int × Int → Option ((List (Int)) × Int)) (x0 : (List (Int)) × Int × Int) =>
    bif decide (x0.2.2 < (x0.1.length : Int)) then
     bnd x0.1.length x0.2.2 fun n2 =>
     Option.bind x0.1[n2]? fun y3 =>
     self1 (x0.1.set n2 x0.2.1, IntKind.wrap .i64 (x0.2.1 + (1 : Int)), IntKind.wrap .i64 (x0.2.2 + (1 : Int)))
    else some (x0.1, x0.2.1)) (a0, a1, (0 : Int)) : Option ((List (Int)) × Int)) fun x4 =>
  some (x4.2, x4.1) := by kernel_rfl
/- laws.markEdgeS -/
def c31 : TC :=
 (.seq (.rg [o1 4 (.lit [.i .i64] [.int .i64 (0)])])
 (.seq (.join [⟨0, [.sl [.i .i64, .i .i64]], false⟩, ⟨1, [.i .i64], false⟩] 67108835 none (.seq (.rg [o1 5 (.lit [.i .i64] [.int .i64 (0)])])
 (.block 0 (.loop [⟨0, [.sl [.i .i64, .i .i64]], false⟩, ⟨1, [.i .i64], false⟩, ⟨5, [.i .i64], false⟩] 67108835
  (.seq (.seq (.rg [o1 6 (.copy 5),
    ⟨true, [], [], .det 1 (.copy 0), [7], (some 7), none⟩,
    o1 8 (.len 7),
    o1 9 (.data (.bin .lss) [.t 6, .t 8])])
  (.cond (.t 9)
   .skip
   (.exit 0)))
  (.seq (.block 1 (.seq (.rg [⟨true, [], [], .det 1 (.copy 0), [12], (some 12), none⟩,
    o1 13 (.copy 5),
    o1 14 (.copy 1),
    o1 15 (.index 12 (.t 13)),
    o1 16 (.idx (.t 15)),
    ⟨false, [], [], .det 1 (.store 0 [(0, 2)] 0 (.t 16) (.t 14)), [0, 7, 12], none, none⟩])
  (.seq (.rg [o1 17 (.copy 1),
    o1 18 (.data (.bin .add) [.t 17, .c (.int .i64 (1))]),
    o1 1 (.copy 18)])
  (.seq (.rg [⟨true, [], [], .det 1 (.copy 0), [19], (some 19), none⟩,
    o1 20 (.copy 5),
    o1 21 (.copy 1),
    o1 22 (.index 19 (.t 20)),
    o1 23 (.idx (.t 22)),
    ⟨false, [], [], .det 1 (.store 0 [(0, 2)] 1 (.t 23) (.t 21)), [0, 19], none, none⟩])
  (.rg [o1 24 (.copy 1),
    o1 25 (.data (.bin .add) [.t 24, .c (.int .i64 (1))]),
    o1 1 (.copy 25)])))))
  (.rg [o1 10 (.copy 5),
    o1 11 (.data (.bin .add) [.t 10, .c (.int .i64 (1))]),
    o1 5 (.copy 11)])))))))
 (.seq (.rg [o1 26 (.copy 1),
   o1 4 (.copy 26)])
 .ret)))
def s31 : Sig := ⟨[.mt false [.sl (.own none) [.d, .d]], .rd false [.d]], (.one false [.d])⟩
noncomputable def E31 : TEnv := envOf []
noncomputable def f31 (n : Nat) : (List (Int × Int)) × Int → Option ((Int) × (List (Int × Int))) := runFn n E31 c31 [[.sl [.i .i64, .i .i64]], [.i .i64]] [.i .i64] [.sl [.i .i64, .i .i64]] [4] (.mt 0 0 0)
noncomputable def g31 : (List (Int × Int)) × Int → Option ((Int) × (List (Int × Int))) := f31 BIG
noncomputable def p31 : TSp := ⟨s31, [[.sl [.i .i64, .i .i64]], [.i .i64]], [.i .i64], [.sl [.i .i64, .i .i64]], Ou.j (.mt 0 0 0), g31⟩
theorem k31 : chkW PG E31 31 s31 (c31.ht 27) (.mt 0 0 0) = some (c31.wc E31, [4]) := by kernel_rfl
theorem ok31 : p31.Ok PG 31 := mkOk (env_nil PG) k31 (by kernel_rfl)
theorem e31 (n : Nat) (a0 : List (Int × Int)) (a1 : Int) : f31 n (a0, a1) =
  Option.bind (loopT n (fun (self1 : (List (Int × Int)) × Int × Int → Option ((List (Int × Int)) × Int)) (x0 : (List (Int × Int)) × Int × Int) =>
    bif decide (x0.2.2 < (x0.1.length : Int)) then
     bnd x0.1.length x0.2.2 fun n2 =>
     Option.bind x0.1[n2]? fun y3 =>
     bnd (x0.1.set n2 (x0.2.1, y3.2)).length x0.2.2 fun n4 =>
     Option.bind (x0.1.set n2 (x0.2.1, y3.2))[n4]? fun y5 =>
     self1 ((x0.1.set n2 (x0.2.1, y3.2)).set n4 (y5.1, IntKind.wrap .i64 (x0.2.1 + (1 : Int))), IntKind.wrap .i64 ((IntKind.wrap .i64 (x0.2.1 + (1 : Int))) + (1 : Int)), IntKind.wrap .i64 (x0.2.2 + (1 : Int)))
    else some (x0.1, x0.2.1)) (a0, a1, (0 : Int)) : Option ((List (Int × Int)) × Int)) fun x6 =>
  some (x6.2, x6.1) := by kernel_rfl
/- laws.heldEdgeS -/
def c32 : TC :=
 (.seq (.rg [o1 4 (.lit [.i .i64] [.int .i64 (0)])])
 (.seq (.join [⟨1, [.i .i64], false⟩] 1073741810 (some [⟨4, [.i .i64], false⟩]) (.seq (.rg [o1 5 (.lit [.i .i64] [.int .i64 (0)])])
 (.block 0 (.loop [⟨1, [.i .i64], false⟩, ⟨5, [.i .i64], false⟩] 1073741810
  (.seq (.seq (.rg [o1 6 (.copy 5),
    o1 7 (.copy 0),
    o1 8 (.len 7),
    o1 9 (.data (.bin .lss) [.t 6, .t 8])])
  (.cond (.t 9)
   .skip
   (.exit 0)))
  (.seq (.block 1 (.seq (.seq (.rg [o1 12 (.copy 0),
    o1 13 (.copy 5),
    o1 14 (.index 12 (.t 13)),
    o1 15 (.idx (.t 14)),
    o1 16 (.load 12 [(0, 2)] 0 (.t 15) 1 false),
    o1 17 (.copy 1),
    o1 18 (.data (.bin .neq) [.t 16, .t 17])])
  (.cond (.t 18)
   (.seq (.rg [o1 4 (.lit [.i .i64] [.int .i64 (-1)])])
   .ret)
   .skip))
  (.seq (.rg [o1 19 (.copy 1),
    o1 20 (.data (.bin .add) [.t 19, .c (.int .i64 (1))]),
    o1 1 (.copy 20)])
  (.seq (.seq (.rg [o1 21 (.copy 0),
    o1 22 (.copy 5),
    o1 23 (.index 21 (.t 22)),
    o1 24 (.idx (.t 23)),
    o1 25 (.load 21 [(0, 2)] 1 (.t 24) 1 false),
    o1 26 (.copy 1),
    o1 27 (.data (.bin .neq) [.t 25, .t 26])])
  (.cond (.t 27)
   (.seq (.rg [o1 4 (.lit [.i .i64] [.int .i64 (-1)])])
   .ret)
   .skip))
  (.rg [o1 28 (.copy 1),
    o1 29 (.data (.bin .add) [.t 28, .c (.int .i64 (1))]),
    o1 1 (.copy 29)])))))
  (.rg [o1 10 (.copy 5),
    o1 11 (.data (.bin .add) [.t 10, .c (.int .i64 (1))]),
    o1 5 (.copy 11)])))))))
 (.seq (.rg [o1 30 (.copy 1),
   o1 4 (.copy 30)])
 .ret)))
def s32 : Sig := ⟨[.rd false [.sl (.own none) [.d, .d]], .rd false [.d]], (.one false [.d])⟩
noncomputable def E32 : TEnv := envOf []
noncomputable def f32 (n : Nat) : (List (Int × Int)) × Int → Option ((Int) × (Unit)) := runFn n E32 c32 [[.sl [.i .i64, .i .i64]], [.i .i64]] [.i .i64] [] [4] .no
noncomputable def g32 : (List (Int × Int)) × Int → Option ((Int) × (Unit)) := f32 BIG
noncomputable def p32 : TSp := ⟨s32, [[.sl [.i .i64, .i .i64]], [.i .i64]], [.i .i64], [], Ou.j .no, g32⟩
theorem k32 : chkW PG E32 32 s32 (c32.ht 31) .no = some (c32.wc E32, [4]) := by kernel_rfl
theorem ok32 : p32.Ok PG 32 := mkOk (env_nil PG) k32 (by kernel_rfl)
theorem e32 (n : Nat) (a0 : List (Int × Int)) (a1 : Int) : f32 n (a0, a1) =
  Option.bind (loopT n (fun (self1 : Int × Int → Option ((Int) ⊕ (Int))) (x0 : Int × Int) =>
    bif decide (x0.2 < (a0.length : Int)) then
     bnd a0.length x0.2 fun n2 =>
     Option.bind a0[n2]? fun y3 =>
     bif !decide (y3.1 = x0.1) then
      some (Sum.inr (-1 : Int))
     else bnd a0.length x0.2 fun n4 =>
     Option.bind a0[n4]? fun y5 =>
     bif !decide (y5.2 = (IntKind.wrap .i64 (x0.1 + (1 : Int)))) then
      some (Sum.inr (-1 : Int))
     else self1 (IntKind.wrap .i64 ((IntKind.wrap .i64 (x0.1 + (1 : Int))) + (1 : Int)), IntKind.wrap .i64 (x0.2 + (1 : Int)))
    else some (Sum.inl x0.1)) (a1, (0 : Int)) : Option ((Int) ⊕ (Int))) fun y => match y with
  | .inl x6 =>
   some (x6, ())
  | .inr x6 =>
   some (x6, ()) := by kernel_rfl
/- laws.FnExactInside -/
def c5 : TC :=
 (.seq (.rg [o1 6 (.lit [.b] [.bool false])])
 (.seq (.seq (.rg [o1 16 (.copy 0),
   o1 17 (.len 16),
   o1 18 (.data (.bin .gtr) [.t 17, .c (.int .i64 (1048576))])])
 (.cond (.t 18)
  (.seq (.rg [o1 6 (.lit [.b] [.bool true])])
  .ret)
  .skip))
 (.seq (.rg [o1 7 (.lit [.i .i64] [.int .i64 (1048576)])])
 (.seq (.rg [o1 19 (.copy 1),
   o1 20 (.copy 7),
   ⟨false, [], [], .call 1 25 [.t 19, .t 20] .no, [21], (some 21), none⟩,
   o1 7 (.copy 21)])
 (.seq (.seq (.rg [o1 22 (.copy 7),
   o1 23 (.data (.bin .lss) [.t 22, .c (.int .i64 (0))])])
 (.cond (.t 23)
  (.seq (.rg [o1 6 (.lit [.b] [.bool true])])
  .ret)
  .skip))
 (.seq (.rg [o1 24 (.copy 0),
   ⟨false, [], [], .call 1 26 [.t 24] .no, [25], (some 25), none⟩,
   o1 26 (.copy 1),
   ⟨false, [], [], .call 1 27 [.t 26] .no, [27], (some 27), none⟩,
   o1 28 (.copy 2),
   ⟨false, [], [], .call 1 23 [.t 25, .t 27, .t 28] .no, [29], (some 29), none⟩,
   ⟨false, [], [], .det 2 (.copy 29), [8, 29], (some 8), none⟩])
 (.seq (.rg [o1 30 (.copy 0),
   ⟨false, [], [], .call 1 26 [.t 30] .no, [31], (some 31), none⟩,
   ⟨false, [], [], .det 2 (.copy 31), [9, 31], (some 9), none⟩])
 (.seq (.rg [o1 32 (.copy 1),
   ⟨false, [], [], .call 1 27 [.t 32] .no, [33], (some 33), none⟩,
   ⟨false, [], [], .det 2 (.copy 33), [10, 33], (some 10), none⟩])
 (.seq (.rg [⟨true, [], [], .det 1 (.copy 9), [34], (some 34), none⟩,
   ⟨true, [], [], .det 1 (.copy 10), [35], (some 35), none⟩,
   o1 36 (.copy 2),
   ⟨false, [], [], .call 1 22 [.t 34, .t 35, .t 36] .no, [37], (some 37), none⟩,
   ⟨false, [], [], .det 2 (.copy 37), [11, 37], (some 11), none⟩])
 (.seq (.seq (.rg [⟨true, [], [], .det 1 (.copy 11), [38], (some 38), none⟩,
   ⟨true, [], [], .det 1 (.copy 8), [39], (some 39), none⟩,
   ⟨false, [], [], .call 1 28 [.t 38, .t 39] .no, [40], (some 40), none⟩,
   o1 41 (.data .not [.t 40])])
 (.cond (.t 41)
  (.seq (.rg [o1 6 (.lit [.b] [.bool false])])
  .ret)
  .skip))
 (.seq (.seq (.rg [⟨true, [], [], .det 1 (.copy 9), [42], (some 42), none⟩,
   o1 43 (.copy 0),
   ⟨false, [], [], .call 1 26 [.t 43] .no, [44], (some 44), none⟩,
   ⟨false, [], [], .call 1 29 [.t 42, .t 44] .no, [45], (some 45), none⟩,
   o1 46 (.data .not [.t 45])])
 (.cond (.t 46)
  (.seq (.rg [o1 6 (.lit [.b] [.bool false])])
  .ret)
  .skip))
 (.seq (.seq (.rg [⟨true, [], [], .det 1 (.copy 10), [47], (some 47), none⟩,
   o1 48 (.copy 1),
   ⟨false, [], [], .call 1 27 [.t 48] .no, [49], (some 49), none⟩,
   ⟨false, [], [], .call 1 28 [.t 47, .t 49] .no, [50], (some 50), none⟩,
   o1 51 (.data .not [.t 50])])
 (.cond (.t 51)
  (.seq (.rg [o1 6 (.lit [.b] [.bool false])])
  .ret)
  .skip))
 (.seq (.rg [o1 12 (.lit [.i .i64] [.int .i64 (1)])])
 (.seq (.rg [⟨false, [], [], .det 2 (.copy 9), [52, 9, 34, 42], (some 52), none⟩,
   o1 53 (.copy 12),
   ⟨false, [], [], .call 2 30 [.t 52, .t 53] (.mt 52 [] 0 52 0), [54, 52], (some 54), none⟩,
   o1 12 (.copy 54)])
 (.seq (.rg [⟨false, [], [], .det 2 (.copy 10), [55, 10, 35, 47], (some 55), none⟩,
   o1 56 (.copy 12),
   ⟨false, [], [], .call 2 31 [.t 55, .t 56] (.mt 55 [] 0 55 0), [57, 55], (some 57), none⟩,
   o1 12 (.copy 57)])
 (.seq (.seq (.join [⟨65, [.b], false⟩] 73498745918686494720 none (.rg [o1 58 (.copy 12),
   o1 59 (.data (.bin .lss) [.t 58, .c (.int .i64 (0))]),
   o1 60 (.copy 59),
   ⟨true, [], [], .det 1 (.copy 11), [61], (some 61), some (2, false)⟩,
   ⟨true, [], [], .det 1 (.copy 8), [62], (some 62), some (2, false)⟩,
   ⟨false, [], [], .call 1 28 [.t 61, .t 62] .no, [63], (some 63), some (2, false)⟩,
   ⟨false, [], [], .det 1 (.data .not [.t 63]), [64], (some 64), some (2, false)⟩,
   ⟨false, [], [], .pick 60 (.c (.bool true)) (.t 64), [65], (some 65), none⟩]))
 (.cond (.t 65)
  (.seq (.rg [o1 6 (.lit [.b] [.bool false])])
  .ret)
  .skip))
 (.seq (.rg [o1 13 (.lit [.i .i64] [.int .i64 (1)])])
 (.seq (.rg [⟨true, [], [], .det 1 (.copy 11), [66], (some 66), none⟩,
   o1 67 (.copy 13),
   ⟨false, [], [], .call 2 31 [.t 66, .t 67] (.mt 11 [] 0 66 0), [68, 11, 38, 66], (some 68), none⟩,
   o1 13 (.copy 68)])
 (.seq (.rg [o1 14 (.lit [.i .i64] [.int .i64 (1)])])
 (.seq (.rg [⟨true, [], [], .det 1 (.copy 11), [69], (some 69), none⟩,
   o1 70 (.copy 14),
   ⟨false, [], [], .call 1 32 [.t 69, .t 70] .no, [71], (some 71), none⟩,
   o1 14 (.copy 71)])
 (.seq (.seq (.rg [o1 72 (.copy 14),
   o1 73 (.data (.bin .lss) [.t 72, .c (.int .i64 (0))])])
 (.cond (.t 73)
  (.seq (.rg [o1 6 (.lit [.b] [.bool false])])
  .ret)
  .skip))
 (.seq (.seq (.rg [o1 74 (.copy 14),
   o1 75 (.copy 13),
   o1 76 (.data (.bin .neq) [.t 74, .t 75])])
 (.cond (.t 76)
  (.seq (.rg [o1 6 (.lit [.b] [.bool false])])
  .ret)
  .skip))
 (.seq (.rg [o1 77 (.copy 0),
   ⟨false, [], [], .call 1 26 [.t 77] .no, [78], (some 78), none⟩,
   o1 79 (.copy 1),
   ⟨false, [], [], .call 1 27 [.t 79] .no, [80], (some 80), none⟩,
   o1 81 (.copy 2),
   ⟨false, [], [], .call 1 22 [.t 78, .t 80, .t 81] .no, [82], (some 82), none⟩,
   ⟨false, [], [], .det 2 (.copy 82), [15, 82], (some 15), none⟩])
 (.seq (.seq (.rg [⟨false, [], [], .det 2 (.copy 15), [83, 15], (some 83), none⟩,
   ⟨false, [], [], .det 2 (.copy 8), [84, 8, 39], (some 84), none⟩,
   ⟨false, [], [], .call 1 28 [.t 83, .t 84] .no, [85], (some 85), none⟩,
   o1 86 (.data .not [.t 85])])
 (.cond (.t 86)
  (.seq (.rg [o1 6 (.lit [.b] [.bool false])])
  .ret)
  .skip))
 (.seq (.rg [o1 14 (.lit [.i .i64] [.int .i64 (1)])])
 (.seq (.rg [⟨false, [], [], .det 2 (.copy 11), [87, 11, 69], (some 87), none⟩,
   o1 88 (.copy 14),
   ⟨false, [], [], .call 1 32 [.t 87, .t 88] .no, [89], (some 89), none⟩,
   o1 14 (.copy 89)])
 (.seq (.seq (.rg [o1 90 (.copy 14),
   o1 91 (.data (.bin .lss) [.t 90, .c (.int .i64 (0))])])
 (.cond (.t 91)
  (.seq (.rg [o1 6 (.lit [.b] [.bool false])])
  .ret)
  .skip))
 (.seq (.seq (.rg [o1 92 (.copy 14),
   o1 93 (.copy 13),
   o1 94 (.data (.bin .neq) [.t 92, .t 93])])
 (.cond (.t 94)
  (.seq (.rg [o1 6 (.lit [.b] [.bool false])])
  .ret)
  .skip))
 (.seq (.rg [o1 6 (.lit [.b] [.bool true])])
 .ret)))))))))))))))))))))))))))))
def s5 : Sig := ⟨[.rd false [.sl (.own none) [.d]], .rd false [.sl (.own none) [.d, .d]], .rd false [.d]], (.one false [.d])⟩
noncomputable def E5 : TEnv := envOf [(25, p25), (26, p26), (27, p27), (23, p23), (22, p22), (28, p28), (29, p29), (30, p30), (31, p31), (32, p32)]
noncomputable def f5 (n : Nat) : List (Int) × (List (Int × Int)) × Int → Option ((Bool) × (Unit)) := runFn n E5 c5 [[.sl [.i .i64]], [.sl [.i .i64, .i .i64]], [.i .i64]] [.b] [] [6] .no
noncomputable def g5 : List (Int) × (List (Int × Int)) × Int → Option ((Bool) × (Unit)) := f5 BIG
noncomputable def p5 : TSp := ⟨s5, [[.sl [.i .i64]], [.sl [.i .i64, .i .i64]], [.i .i64]], [.b], [], Ou.j .no, g5⟩
theorem k5 : chkW PG E5 5 s5 (c5.ht 95) .no = some (c5.wc E5, [6]) := by kernel_rfl
theorem ok5 : p5.Ok PG 5 := mkOk (env_cons ok25 (env_cons ok26 (env_cons ok27 (env_cons ok23 (env_cons ok22 (env_cons ok28 (env_cons ok29 (env_cons ok30 (env_cons ok31 (env_cons ok32 (env_nil PG))))))))))) k5 (by kernel_rfl)
theorem e5 (n : Nat) (a0 : List (Int)) (a1 : List (Int × Int)) (a2 : Int) : f5 n (a0, a1, a2) =
  bif decide ((1048576 : Int) < (a0.length : Int)) then
   some (true, ())
  else Option.bind (g25 (a1, (1048576 : Int))) fun r0 =>
  bif decide (r0.1 < (0 : Int)) then
   some (true, ())
  else Option.bind (g26 a0) fun r1 =>
  Option.bind (g27 a1) fun r2 =>
  Option.bind (g23 (r1.1, r2.1, a2)) fun r3 =>
  Option.bind (g26 a0) fun r4 =>
  Option.bind (g27 a1) fun r5 =>
  Option.bind (g22 (r4.1, r5.1, a2)) fun r6 =>
  Option.bind (g28 (r6.1, r3.1)) fun r7 =>
  bif !r7.1 then
   some (false, ())
  else Option.bind (g26 a0) fun r8 =>
  Option.bind (g29 (r4.1, r8.1)) fun r9 =>
  bif !r9.1 then
   some (false, ())
  else Option.bind (g27 a1) fun r10 =>
  Option.bind (g28 (r5.1, r10.1)) fun r11 =>
  bif !r11.1 then
   some (false, ())
  else Option.bind (g30 (r4.1, (1 : Int))) fun r12 =>
  Option.bind (g31 (r5.1, r12.1)) fun r13 =>
  Option.bind (bif decide (r13.1 < (0 : Int)) then
    some true
   else Option.bind (g28 (r6.1, r3.1)) fun r14 =>
   some !r14.1 : Option (Bool)) fun x15 =>
  bif x15 then
   some (false, ())
  else Option.bind (g31 (r6.1, (1 : Int))) fun r16 =>
  Option.bind (g32 (r16.2, (1 : Int))) fun r17 =>
  bif decide (r17.1 < (0 : Int)) then
   some (false, ())
  else bif !decide (r17.1 = r16.1) then
   some (false, ())
  else Option.bind (g26 a0) fun r18 =>
  Option.bind (g27 a1) fun r19 =>
  Option.bind (g22 (r18.1, r19.1, a2)) fun r20 =>
  Option.bind (g28 (r20.1, r3.1)) fun r21 =>
  bif !r21.1 then
   some (false, ())
  else Option.bind (g32 (r16.2, (1 : Int))) fun r22 =>
  bif decide (r22.1 < (0 : Int)) then
   some (false, ())
  else bif !decide (r22.1 = r16.1) then
   some (false, ())
  else some (true, ()) := by kernel_rfl
end Go.Fw

namespace Go.Fw

abbrev Ed := Int × Int

theorem h25 (a : List Ed) (l : Int) (hl : 0 ≤ l) (hl' : l ≤ 1048576) (ha : a.length ≤ maxLen) : g25 (a, l) = some (if (a.length : Int) ≤ l then l - a.length else -1, ()) := by
  have hm : maxLen = 9223372036854775807 := by decide
  show f25 BIG (a, l) = _
  rw [e25, wr (by omega) (by omega)]
  by_cases h : (a.length : Int) ≤ l
  · rw [if_pos h, decide_eq_false (by omega), cond_false]
  · rw [if_neg h, decide_eq_true (by omega), cond_true]

theorem h94 (a : Ed) : g94 a = some (a, ()) := e94 BIG a

theorem h27 (a : List Ed) (ha : a.length ≤ 1048576) : g27 a = some (a, ()) := by
  have hm : maxLen = 9223372036854775807 := by decide
  show f27 BIG a = _
  rw [e27, decide_eq_true (by omega), cond_true, decide_eq_true (by simp; omega), cond_true]
  simp only [Int.toNat_natCast]
  rw [cpLoop a (by omega)]
  · rfl
  · intro self out i y hl hy
    have hi := (List.getElem?_eq_some_iff.1 hy).1
    simp only [show ((i : Int) < (a.length : Int)) from by omega, decide_true, cond_true]
    rw [bnd_nat hi, hy, Option.bind_some, h94, Option.bind_some, bnd_nat (by omega), List.getElem?_eq_getElem (by omega), Option.bind_some, wr1 (by omega)]
  · intro self out hl
    simp

theorem h95 (a b : Ed) : g95 (a, b) = some (decide (a = b), ()) := by
  show f95 BIG _ = _
  rw [e95]
  obtain ⟨a1, a2⟩ := a
  obtain ⟨b1, b2⟩ := b
  by_cases h1 : a1 = b1 <;> by_cases h2 : a2 = b2 <;> simp [h1, h2]

theorem h28 (a b : List Ed) (ha : a.length ≤ maxLen) : g28 (a, b) = some (decide (a = b), ()) := by
  show f28 BIG _ = _
  rw [e28]
  by_cases hl : a.length = b.length
  · rw [decide_eq_true (by omega), Bool.not_true, cond_false, eqLoop a b ha hl false]
    · by_cases h : a = b <;> simp [h]
    · intro self i x y hx hy
      have hi := (List.getElem?_eq_some_iff.1 hx).1
      simp only [show ((i : Int) < (a.length : Int)) from by omega, decide_true, cond_true]
      rw [bnd_nat hi, hx, Option.bind_some, bnd_nat (by omega), hy, Option.bind_some, h95, Option.bind_some, wr1 (by omega)]
      by_cases h : x = y <;> simp [h]
    · intro self
      simp
  · rw [decide_eq_false (by omega), Bool.not_false, cond_true, decide_eq_false (fun h => hl (by rw [h]))]

theorem h30 (a : List Int) (ha : a.length ≤ 1048576) : ∃ t, t.length = a.length ∧ g30 (a, 1) = some (1 + (a.length : Int), t) := by
  have hm : maxLen = 9223372036854775807 := by decide
  refine ⟨(List.range a.length).map fun (i : Nat) => 1 + (i : Int), by simp, ?_⟩
  show f30 BIG _ = _
  rw [e30]
  have := markLoop a ((List.range a.length).map fun (i : Nat) => 1 + (i : Int)) (by simp) (by omega) (fun i => 1 + (i : Int)) (F := fun (self1 : (List (Int)) × Int × Int → Option ((List (Int)) × Int)) (x0 : (List (Int)) × Int × Int) =>
    bif decide (x0.2.2 < (x0.1.length : Int)) then
     bnd x0.1.length x0.2.2 fun n2 =>
     Option.bind x0.1[n2]? fun y3 =>
     self1 (x0.1.set n2 x0.2.1, IntKind.wrap .i64 (x0.2.1 + (1 : Int)), IntKind.wrap .i64 (x0.2.2 + (1 : Int)))
    else some (x0.1, x0.2.1)) ?_ ?_
  · simp only [Int.natCast_zero, Int.add_zero] at this
    rw [this]
    rfl
  · intro self out i y z hi hl hy _ hz
    simp only [List.getElem?_map, List.getElem?_range hi, Option.map_some, Option.some.injEq] at hz
    subst hz
    simp only [show ((i : Int) < (out.length : Int)) from by omega, decide_true, cond_true]
    rw [bnd_nat (by omega), hy, Option.bind_some, wr1 (by omega), wr (by omega) (by omega)]
    congr 2
    all_goals omega
  · intro self out hl
    simp [hl]

def edM (k : Int) (n : Nat) : List Ed := (List.range n).map fun (i : Nat) => (k + 2 * (i : Int), k + 2 * (i : Int) + 1)
theorem edM_len (k : Int) (n : Nat) : (edM k n).length = n := by simp [edM]
theorem edM_get {k : Int} {n i : Nat} {z : Ed} (h : (edM k n)[i]? = some z) : i < n ∧ z = (k + 2 * (i : Int), k + 2 * (i : Int) + 1) := by
  have hi := (List.getElem?_eq_some_iff.1 h).1
  rw [edM_len] at hi
  refine ⟨hi, ?_⟩
  simp only [edM, List.getElem?_map, List.getElem?_range hi, Option.map_some, Option.some.injEq] at h
  exact h.symm

theorem h31 (a : List Ed) (k : Int) (hk : 0 ≤ k) (hk' : k ≤ 4294967296) (ha : a.length ≤ 4294967296) : g31 (a, k) = some (k + 2 * (a.length : Int), edM k a.length) := by
  have hm : maxLen = 9223372036854775807 := by decide
  show f31 BIG _ = _
  rw [e31]
  have := markLoop a (edM k a.length) (edM_len _ _) (by omega) (fun i => k + 2 * (i : Int)) (F := fun (self1 : (List (Int × Int)) × Int × Int → Option ((List (Int × Int)) × Int)) (x0 : (List (Int × Int)) × Int × Int) =>
    bif decide (x0.2.2 < (x0.1.length : Int)) then
     bnd x0.1.length x0.2.2 fun n2 =>
     Option.bind x0.1[n2]? fun y3 =>
     bnd (x0.1.set n2 (x0.2.1, y3.2)).length x0.2.2 fun n4 =>
     Option.bind (x0.1.set n2 (x0.2.1, y3.2))[n4]? fun y5 =>
     self1 ((x0.1.set n2 (x0.2.1, y3.2)).set n4 (y5.1, IntKind.wrap .i64 (x0.2.1 + (1 : Int))), IntKind.wrap .i64 ((IntKind.wrap .i64 (x0.2.1 + (1 : Int))) + (1 : Int)), IntKind.wrap .i64 (x0.2.2 + (1 : Int)))
    else some (x0.1, x0.2.1)) ?_ ?_
  · simp only [Int.natCast_zero, Int.mul_zero, Int.add_zero] at this
    rw [this]
    rfl
  · intro self out i y z hi hl hy _ hz
    obtain ⟨_, rfl⟩ := edM_get hz
    simp only [show ((i : Int) < (out.length : Int)) from by omega, decide_true, cond_true]
    rw [bnd_nat (by omega), hy, Option.bind_some, bnd_nat (by simp; omega), List.getElem?_set_self (by omega), Option.bind_some, List.set_set, wr1 (by omega), wr (n := k + 2 * (i : Int) + 1) (by omega) (by omega), wr (by omega) (by omega)]
    congr 2
    simp only [Prod.mk.injEq, and_true]
    omega
  · intro self out hl
    simp [hl]

theorem h32 (n : Nat) (k : Int) (hk : 0 ≤ k) (hk' : k ≤ 4294967296) (hn : n ≤ 4294967296) : g32 (edM k n, k) = some (k + 2 * (n : Int), ()) := by
  have hm : maxLen = 9223372036854775807 := by decide
  show f32 BIG _ = _
  rw [e32, foldLoop (edM k n) (by rw [edM_len]; omega) (fun i (c : Int) => c = k + 2 * (i : Int)) (fun c _ => c + 2) Sum.inl (by simp) (fun i s y _ h => by rw [h]; simp; omega)]
  · have : ∀ (l : List Ed) (c : Int), l.foldl (fun c _ => c + 2) c = c + 2 * (l.length : Int) := by
      intro l
      induction l with
      | nil => simp
      | cons y l ih => intro c; rw [List.foldl_cons, ih]; simp; omega
    rw [this, edM_len]
    rfl
  · intro self s i y hy hs
    obtain ⟨hi, rfl⟩ := edM_get hy
    subst hs
    rw [edM_len]
    simp only [show ((i : Int) < (n : Int)) from by omega, decide_true, cond_true]
    rw [bnd_nat hi, hy, Option.bind_some]
    simp only [decide_true, Bool.not_true, cond_false]
    rw [bnd_nat hi, hy, Option.bind_some, wr1 (by omega), wr (n := k + 2 * (i : Int) + 1) (by omega) (by omega), wr (by omega) (by omega)]
    simp only [decide_true, Bool.not_true, cond_false]
    congr 2
    omega
  · intro self s hs
    simp

def insP (own : List Int) (s : Int) (y : Ed) : Bool := (decide (0 ≤ y.1) && decide (y.1 < own.length) && decide (own[y.1.toNat]? = some s)) && (decide (0 ≤ y.2) && decide (y.2 < own.length) && decide (own[y.2.toNat]? = some s))

theorem h93 (own : List Int) (h : own.length ≤ 1048576) (v s : Int) : g93 (own, v, s) = some (decide (0 ≤ v) && decide (v < own.length) && decide (own[v.toNat]? = some s), ()) := by
  show f93 BIG _ = _
  rw [e93, h84, Option.bind_some, wr (by omega) (by omega)]
  by_cases h0 : 0 ≤ v
  · by_cases h1 : v < own.length
    · have hi : v.toNat < own.length := by omega
      rw [decide_eq_true h0, decide_eq_true h1, decide_eq_true (by omega)]
      simp only [Bool.and_self, cond_true]
      rw [bnd_ok h0 h1, List.getElem?_eq_getElem hi]
      simp
    · rw [decide_eq_true h0, decide_eq_false h1, decide_eq_false (by omega)]
      rfl
  · rw [decide_eq_false h0]
    rfl

theorem foldl_filter {α : Type} (p : α → Bool) : ∀ (l : List α) (s : List α), l.foldl (fun s y => if p y then s ++ [y] else s) s = s ++ l.filter p
  | [], s => by simp
  | y :: l, s => by
    rw [List.foldl_cons, foldl_filter p l]
    cases h : p y <;> simp [h]

theorem h22 (own : List Int) (es : List Ed) (s : Int) (h : own.length ≤ 1048576) (he : es.length ≤ 1048576) : g22 (own, es, s) = some (es.filter (insP own s), ()) := by
  have hm : maxLen = 9223372036854775807 := by decide
  show f22 BIG _ = _
  rw [e22, foldLoop es (by omega) (fun i (c : List Ed) => c.length ≤ i) (fun c y => if insP own s y then c ++ [y] else c) id (by simp) (fun i c y _ (h : c.length ≤ i) => by show List.length (if _ then _ else _) ≤ _; split <;> (try simp) <;> omega)]
  · rw [foldl_filter]; rfl
  · intro self c i y hy (hc : c.length ≤ i)
    have hi := (List.getElem?_eq_some_iff.1 hy).1
    simp only [show ((i : Int) < (es.length : Int)) from by omega, decide_true, cond_true]
    rw [bnd_nat hi, hy, Option.bind_some, h93 _ h, Option.bind_some, h93 _ h, wr1 (by omega)]
    unfold insP
    cases decide (0 ≤ y.1) && decide (y.1 < own.length) && decide (own[y.1.toNat]? = some s) <;> cases decide (0 ≤ y.2) && decide (y.2 < own.length) && decide (own[y.2.toNat]? = some s) <;> simp [show c.length + 1 ≤ 4294967296 from by omega]
  · intro self c hc
    simp

theorem h23 (own : List Int) (es : List Ed) (s : Int) (h : own.length ≤ 1048576) (he : es.length ≤ 1048576) : g23 (own, es, s) = some (es.filter (insP own s), ()) := by
  have hm : maxLen = 9223372036854775807 := by decide
  show f23 BIG _ = _
  rw [e23, foldLoop es (by omega) (fun i (c : List Ed) => c.length ≤ i) (fun c y => if insP own s y then c ++ [y] else c) id (by simp) (fun i c y _ (h : c.length ≤ i) => by show List.length (if _ then _ else _) ≤ _; split <;> (try simp) <;> omega)]
  · rw [foldl_filter]; rfl
  · intro self c i y hy (hc : c.length ≤ i)
    have hi := (List.getElem?_eq_some_iff.1 hy).1
    simp only [show ((i : Int) < (es.length : Int)) from by omega, decide_true, cond_true]
    rw [bnd_nat hi, hy, Option.bind_some, h82, Option.bind_some, h82, Option.bind_some, wr1 (by omega), wr (by omega) (by omega)]
    unfold insP
    by_cases a1 : 0 ≤ y.1
    · by_cases a2 : y.1 < own.length
      · by_cases b1 : 0 ≤ y.2
        · by_cases b2 : y.2 < own.length
          · have k1 : y.1.toNat < own.length := by omega
            have k2 : y.2.toNat < own.length := by omega
            rw [bnd_ok a1 a2, bnd_ok b1 b2, List.getElem?_eq_getElem k1, List.getElem?_eq_getElem k2]
            by_cases c1 : own[y.1.toNat] = s <;> by_cases c2 : own[y.2.toNat] = s <;> simp [a1, a2, b1, b2, c1, c2, show y.1 ≤ (own.length : Int) - 1 from by omega, show y.2 ≤ (own.length : Int) - 1 from by omega, show c.length + 1 ≤ 4294967296 from by omega]
          · have : ¬ y.2 ≤ (own.length : Int) - 1 := by omega
            simp [a1, a2, b1, b2, this]
        · simp [a1, a2, b1]
      · have : ¬ y.1 ≤ (own.length : Int) - 1 := by omega
        simp [a1, a2, this]
    · simp [a1]
  · intro self c hc
    simp

theorem law5 (own : List Int) (es : List Ed) (s : Int) (h1 : own.length ≤ maxLen) (h2 : es.length ≤ maxLen) : g5 (own, es, s) = some (true, ()) := by
  show f5 BIG _ = _
  have hm : maxLen = 9223372036854775807 := by decide
  rw [e5]
  by_cases ho : own.length ≤ 1048576
  · rw [decide_eq_false (by omega), cond_false, h25 es _ (by omega) (by omega) h2, Option.bind_some]
    by_cases he : es.length ≤ 1048576
    · rw [if_pos (by omega), decide_eq_false (by simp; omega), cond_false]
      have hf : (es.filter (insP own s)).length ≤ 1048576 := Nat.le_trans (List.length_filter_le _ _) he
      obtain ⟨t, ht, h30'⟩ := h30 own ho
      simp only [h26 own ho, h27 es he, h22 own es s ho he, h23 own es s ho he, h28 _ _ (Nat.le_trans hf (by omega)), h28 es es h2, h29 own h1, h30', Option.bind_some, decide_true, Bool.not_true, cond_false]
      rw [h31 es _ (by omega) (by omega) (by omega)]
      simp only [Option.bind_some]
      rw [decide_eq_false (by omega)]
      simp only [Option.bind_some, cond_false]
      rw [h31 _ 1 (by omega) (by omega) (by omega)]
      simp only [Option.bind_some]
      rw [h32 _ 1 (by omega) (by omega) (by omega)]
      simp only [Option.bind_some]
      rw [decide_eq_false (by omega)]
      simp
    · rw [if_neg (by omega)]; rfl
  · rw [decide_eq_true (by omega)]; rfl
end Go.Fw

/- The given functions, as what they compute; each is shown to be what the code does. -/
namespace Go.Fw
/- laws.szOrder -/
def c54 : TC :=
 (.seq (.rg [o1 2 (.a (.t 0)),
   o1 4 (.lit [.i .i64] [.int .i64 (0)])])
 (.seq (.rg [o1 5 (.idx .nil),
   o1 6 (.load 2 [] 2 (.t 5) 1 false),
   o1 7 (.copy 1),
   ⟨false, [], [], .call 1 25 [.t 6, .t 7] .no, [8], (some 8), none⟩,
   o1 1 (.copy 8)])
 (.seq (.seq (.rg [o1 9 (.copy 1),
   o1 10 (.data (.bin .lss) [.t 9, .c (.int .i64 (0))])])
 (.cond (.t 10)
  (.seq (.rg [o1 4 (.lit [.i .i64] [.int .i64 (-1)])])
  .ret)
  .skip))
 (.seq (.rg [o1 11 (.copy 1),
   o1 4 (.copy 11)])
 .ret))))
def s54 : Sig := ⟨[.rd true [.d, .d, .sl (.own none) [.d, .d], .d], .rd false [.d]], (.one false [.d])⟩
noncomputable def E54 : TEnv := envOf [(25, p25)]
noncomputable def f54 (n : Nat) : (Int × Int × List (Int × Int) × Int) × Int → Option ((Int) × (Unit)) := runFn n E54 c54 [[.i .i64, .i .i64, .sl [.i .i64, .i .i64], .i .i64], [.i .i64]] [.i .i64] [] [4] .no
noncomputable def g54 : (Int × Int × List (Int × Int) × Int) × Int → Option ((Int) × (Unit)) := f54 BIG
noncomputable def p54 : TSp := ⟨s54, [[.i .i64, .i .i64, .sl [.i .i64, .i .i64], .i .i64], [.i .i64]], [.i .i64], [], Ou.j .no, g54⟩
theorem k54 : chkW PG E54 54 s54 (c54.ht 12) .no = some (c54.wc E54, [4]) := by kernel_rfl
theorem ok54 : p54.Ok PG 54 := mkOk (env_cons ok25 (env_nil PG)) k54 (by kernel_rfl)
theorem e54 (n : Nat) (a0 : Int × Int × List (Int × Int) × Int) (a1 : Int) : f54 n (a0, a1) =
  Option.bind (g25 (a0.2.2.1, a1)) fun r0 =>
  bif decide (r0.1 < (0 : Int)) then
   some ((-1 : Int), ())
  else some (r0.1, ()) := by kernel_rfl
/- laws.toOrder -/
def c56 : TC :=
 (.seq (.rg [o1 1 (.a (.t 0)),
   ⟨false, [], [], .det 2 (.a (.c [.i .i64, .i .i64, .sl [.i .i64, .i .i64], .i .i64] [.int .i64 (0), .int .i64 (0), .slice none 0 0, .int .i64 (0)])), [2, 1000000001], (some 2), none⟩])
 (.seq (.rg [⟨false, [], [], .det 2 (.a (.c [.i .i64, .i .i64, .sl [.i .i64, .i .i64], .i .i64] [.int .i64 (0), .int .i64 (0), .slice none 0 0, .int .i64 (0)])), [3, 1000000001], (some 3), none⟩])
 (.seq (.rg [o1 4 (.idx .nil),
   o1 5 (.load 1 [] 0 (.t 4) 1 false),
   o1 6 (.idx .nil),
   ⟨false, [], [], .det 1 (.store 3 [] 0 (.t 6) (.t 5)), [3], none, none⟩])
 (.seq (.rg [o1 7 (.idx .nil),
   o1 8 (.load 1 [] 1 (.t 7) 1 false),
   o1 9 (.idx .nil),
   ⟨false, [], [], .det 1 (.store 3 [] 1 (.t 9) (.t 8)), [3], none, none⟩])
 (.seq (.rg [o1 10 (.idx .nil),
   o1 11 (.load 1 [] 2 (.t 10) 1 false),
   ⟨false, [], [], .call 1 27 [.t 11] .no, [12], (some 12), none⟩,
   o1 13 (.idx .nil),
   ⟨false, [], [], .det 2 (.store 3 [] 2 (.t 13) (.t 12)), [3, 12], none, none⟩])
 (.seq (.rg [o1 14 (.idx .nil),
   o1 15 (.load 1 [] 3 (.t 14) 1 false),
   o1 16 (.idx .nil),
   ⟨false, [], [], .det 1 (.store 3 [] 3 (.t 16) (.t 15)), [3], none, none⟩])
 (.seq (.rg [o1 17 (.load 3 [] 0 .nil 4 true),
   ⟨false, [17], [], .det 2 (.store 2 [] 0 .nil (.t 17)), [2, 17, 17, 3], none, none⟩])
 .ret)))))))
def s56 : Sig := ⟨[.rd true [.d, .d, .sl (.own none) [.d, .d], .d]], (.one true [.d, .d, .sl (.own none) [.d, .d], .d])⟩
noncomputable def E56 : TEnv := envOf [(27, p27)]
noncomputable def f56 (n : Nat) : (Int × Int × List (Int × Int) × Int) → Option ((Int × Int × List (Int × Int) × Int) × (Unit)) := runFn n E56 c56 [[.i .i64, .i .i64, .sl [.i .i64, .i .i64], .i .i64]] [.i .i64, .i .i64, .sl [.i .i64, .i .i64], .i .i64] [] [2] .no
noncomputable def g56 : (Int × Int × List (Int × Int) × Int) → Option ((Int × Int × List (Int × Int) × Int) × (Unit)) := f56 BIG
noncomputable def p56 : TSp := ⟨s56, [[.i .i64, .i .i64, .sl [.i .i64, .i .i64], .i .i64]], [.i .i64, .i .i64, .sl [.i .i64, .i .i64], .i .i64], [], Ou.j .no, g56⟩
theorem k56 : chkW PG E56 56 s56 (c56.ht 18) .no = some (c56.wc E56, [2]) := by kernel_rfl
theorem ok56 : p56.Ok PG 56 := mkOk (env_cons ok27 (env_nil PG)) k56 (by kernel_rfl)
theorem e56 (n : Nat) (a0 : Int × Int × List (Int × Int) × Int) : f56 n a0 =
  Option.bind (g27 a0.2.2.1) fun r0 =>
  some ((a0.1, a0.2.1, r0.1, a0.2.2.2), ()) := by kernel_rfl
/- spec.EdgeOk -/
def c128 : TC :=
 (.seq (.rg [o1 3 (.a (.t 1)),
   o1 4 (.lit [.b] [.bool false])])
 (.seq (.join [⟨4, [.b], false⟩] 268435440 none (.rg [o1 5 (.copy 0),
   ⟨false, [], [], .call 1 82 [.t 5, .c [.i .i64] [.int .i64 (1)], .c [.i .i64] [.int .i64 (12)]] .no, [6], (some 6), none⟩,
   o1 7 (.copy 6),
   ⟨false, [], [], .det 1 (.idx .nil), [8], (some 8), some (2, true)⟩,
   ⟨false, [], [], .det 1 (.load 3 [] 0 (.t 8) 1 false), [9], (some 9), some (2, true)⟩,
   ⟨false, [], [], .det 1 (.copy 0), [10], (some 10), some (2, true)⟩,
   ⟨false, [], [], .det 1 (.data (.bin .sub) [.t 10, .c (.int .i64 (1))]), [11], (some 11), some (2, true)⟩,
   ⟨false, [], [], .call 1 82 [.t 9, .c [.i .i64] [.int .i64 (0)], .t 11] .no, [12], (some 12), some (2, true)⟩,
   ⟨false, [], [], .pick 7 (.t 12) (.c (.bool false)), [13], (some 13), none⟩,
   o1 14 (.copy 13),
   ⟨false, [], [], .det 1 (.idx .nil), [15], (some 15), some (9, true)⟩,
   ⟨false, [], [], .det 1 (.load 3 [] 1 (.t 15) 1 false), [16], (some 16), some (9, true)⟩,
   ⟨false, [], [], .det 1 (.copy 0), [17], (some 17), some (9, true)⟩,
   ⟨false, [], [], .det 1 (.data (.bin .sub) [.t 17, .c (.int .i64 (1))]), [18], (some 18), some (9, true)⟩,
   ⟨false, [], [], .call 1 82 [.t 16, .c [.i .i64] [.int .i64 (0)], .t 18] .no, [19], (some 19), some (9, true)⟩,
   ⟨false, [], [], .pick 14 (.t 19) (.c (.bool false)), [20], (some 20), none⟩,
   o1 21 (.copy 20),
   ⟨false, [], [], .det 1 (.idx .nil), [22], (some 22), some (16, true)⟩,
   ⟨false, [], [], .det 1 (.load 3 [] 0 (.t 22) 1 false), [23], (some 23), some (16, true)⟩,
   ⟨false, [], [], .det 1 (.idx .nil), [24], (some 24), some (16, true)⟩,
   ⟨false, [], [], .det 1 (.load 3 [] 1 (.t 24) 1 false), [25], (some 25), some (16, true)⟩,
   ⟨false, [], [], .det 1 (.data (.bin .lss) [.t 23, .t 25]), [26], (some 26), some (16, true)⟩,
   ⟨false, [], [], .pick 21 (.t 26) (.c (.bool false)), [27], (some 27), none⟩,
   o1 4 (.copy 27)]))
 .ret))
def s128 : Sig := ⟨[.rd false [.d], .rd true [.d, .d]], (.one false [.d])⟩
noncomputable def E128 : TEnv := envOf [(82, p82)]
noncomputable def f128 (n : Nat) : Int × (Int × Int) → Option ((Bool) × (Unit)) := runFn n E128 c128 [[.i .i64], [.i .i64, .i .i64]] [.b] [] [4] .no
noncomputable def g128 : Int × (Int × Int) → Option ((Bool) × (Unit)) := f128 BIG
noncomputable def p128 : TSp := ⟨s128, [[.i .i64], [.i .i64, .i .i64]], [.b], [], Ou.j .no, g128⟩
theorem k128 : chkW PG E128 128 s128 (c128.ht 28) .no = some (c128.wc E128, [4]) := by kernel_rfl
theorem ok128 : p128.Ok PG 128 := mkOk (env_cons ok82 (env_nil PG)) k128 (by kernel_rfl)
theorem e128 (n : Nat) (a0 : Int) (a1 : Int × Int) : f128 n (a0, a1) =
  Option.bind (Option.bind (g82 (a0, (1 : Int), (12 : Int))) fun r0 =>
   bif r0.1 then
    Option.bind (g82 (a1.1, (0 : Int), IntKind.wrap .i64 (a0 - (1 : Int)))) fun r1 =>
    bif r1.1 then
     Option.bind (g82 (a1.2, (0 : Int), IntKind.wrap .i64 (a0 - (1 : Int)))) fun r2 =>
     bif r2.1 then
      some (decide (a1.1 < a1.2))
     else some false
    else some false
   else some false : Option (Bool)) fun x3 =>
  some (x3, ()) := by kernel_rfl
/- spec.l05Less -/
def c135 : TC :=
 (.seq (.rg [o1 2 (.a (.t 0)),
   o1 3 (.a (.t 1)),
   o1 4 (.lit [.b] [.bool false])])
 (.seq (.join [⟨4, [.b], false⟩] 16777200 none (.rg [o1 5 (.idx .nil),
   o1 6 (.load 2 [] 0 (.t 5) 1 false),
   o1 7 (.idx .nil),
   o1 8 (.load 3 [] 0 (.t 7) 1 false),
   o1 9 (.data (.bin .lss) [.t 6, .t 8]),
   o1 10 (.copy 9),
   ⟨false, [], [], .det 1 (.idx .nil), [11], (some 11), some (5, false)⟩,
   ⟨false, [], [], .det 1 (.load 2 [] 0 (.t 11) 1 false), [12], (some 12), some (5, false)⟩,
   ⟨false, [], [], .det 1 (.idx .nil), [13], (some 13), some (5, false)⟩,
   ⟨false, [], [], .det 1 (.load 3 [] 0 (.t 13) 1 false), [14], (some 14), some (5, false)⟩,
   ⟨false, [], [], .det 1 (.data (.bin .eql) [.t 12, .t 14]), [15], (some 15), some (5, false)⟩,
   ⟨false, [], [], .det 1 (.copy 15), [16], (some 16), some (5, false)⟩,
   ⟨false, [], [], .det 1 (.idx .nil), [17], (some 17), some (11, true)⟩,
   ⟨false, [], [], .det 1 (.load 2 [] 1 (.t 17) 1 false), [18], (some 18), some (11, true)⟩,
   ⟨false, [], [], .det 1 (.idx .nil), [19], (some 19), some (11, true)⟩,
   ⟨false, [], [], .det 1 (.load 3 [] 1 (.t 19) 1 false), [20], (some 20), some (11, true)⟩,
   ⟨false, [], [], .det 1 (.data (.bin .lss) [.t 18, .t 20]), [21], (some 21), some (11, true)⟩,
   ⟨false, [], [], .pick 16 (.t 21) (.c (.bool false)), [22], (some 22), some (5, false)⟩,
   ⟨false, [], [], .pick 10 (.c (.bool true)) (.t 22), [23], (some 23), none⟩,
   o1 4 (.copy 23)]))
 .ret))
def s135 : Sig := ⟨[.rd true [.d, .d], .rd true [.d, .d]], (.one false [.d])⟩
noncomputable def E135 : TEnv := envOf []
noncomputable def f135 (n : Nat) : (Int × Int) × (Int × Int) → Option ((Bool) × (Unit)) := runFn n E135 c135 [[.i .i64, .i .i64], [.i .i64, .i .i64]] [.b] [] [4] .no
noncomputable def g135 : (Int × Int) × (Int × Int) → Option ((Bool) × (Unit)) := f135 BIG
noncomputable def p135 : TSp := ⟨s135, [[.i .i64, .i .i64], [.i .i64, .i .i64]], [.b], [], Ou.j .no, g135⟩
theorem k135 : chkW PG E135 135 s135 (c135.ht 24) .no = some (c135.wc E135, [4]) := by kernel_rfl
theorem ok135 : p135.Ok PG 135 := mkOk (env_nil PG) k135 (by kernel_rfl)
theorem e135 (n : Nat) (a0 : Int × Int) (a1 : Int × Int) : f135 n (a0, a1) =
  Option.bind (bif decide (a0.1 < a1.1) then
    some true
   else bif decide (a0.1 = a1.1) then
    some (decide (a0.2 < a1.2))
   else some false : Option (Bool)) fun x0 =>
  some (x0, ()) := by kernel_rfl
/- spec.l05Edges -/
def c101 : TC :=
 (.seq (.rg [o1 4 (.lit [.b] [.bool false])])
 (.seq (.join [] 68719476720 (some [⟨4, [.b], false⟩]) (.seq (.rg [o1 5 (.lit [.i .i64] [.int .i64 (0)])])
 (.block 0 (.loop [⟨5, [.i .i64], false⟩] 68719476720
  (.seq (.seq (.rg [o1 6 (.copy 5),
    o1 7 (.copy 1),
    o1 8 (.len 7),
    o1 9 (.data (.bin .lss) [.t 6, .t 8])])
  (.cond (.t 9)
   .skip
   (.exit 0)))
  (.seq (.join [] 68719472656 (some [⟨4, [.b], false⟩]) (.block 1 (.seq (.join [⟨35, [.b], false⟩] 68719472640 none (.rg [o1 12 (.copy 0),
    o1 13 (.copy 1),
    o1 14 (.copy 5),
    o1 15 (.index 13 (.t 14)),
    o1 16 (.load 13 [(0, 2)] 0 (.t 15) 2 false),
    ⟨false, [], [], .call 1 128 [.t 12, .t 16] .no, [17], (some 17), none⟩,
    o1 18 (.data .not [.t 17]),
    o1 19 (.copy 18),
    ⟨false, [], [], .det 1 (.copy 5), [20], (some 20), some (7, false)⟩,
    ⟨false, [], [], .det 1 (.data (.bin .gtr) [.t 20, .c (.int .i64 (0))]), [21], (some 21), some (7, false)⟩,
    ⟨false, [], [], .det 1 (.copy 21), [22], (some 22), some (7, false)⟩,
    ⟨false, [], [], .det 1 (.copy 1), [23], (some 23), some (10, true)⟩,
    ⟨false, [], [], .det 1 (.copy 5), [24], (some 24), some (10, true)⟩,
    ⟨false, [], [], .det 1 (.data (.bin .sub) [.t 24, .c (.int .i64 (1))]), [25], (some 25), some (10, true)⟩,
    ⟨false, [], [], .det 1 (.index 23 (.t 25)), [26], (some 26), some (10, true)⟩,
    ⟨false, [], [], .det 1 (.load 23 [(0, 2)] 0 (.t 26) 2 false), [27], (some 27), some (10, true)⟩,
    ⟨false, [], [], .det 1 (.copy 1), [28], (some 28), some (10, true)⟩,
    ⟨false, [], [], .det 1 (.copy 5), [29], (some 29), some (10, true)⟩,
    ⟨false, [], [], .det 1 (.index 28 (.t 29)), [30], (some 30), some (10, true)⟩,
    ⟨false, [], [], .det 1 (.load 28 [(0, 2)] 0 (.t 30) 2 false), [31], (some 31), some (10, true)⟩,
    ⟨false, [], [], .call 1 135 [.t 27, .t 31] .no, [32], (some 32), some (10, true)⟩,
    ⟨false, [], [], .det 1 (.data .not [.t 32]), [33], (some 33), some (10, true)⟩,
    ⟨false, [], [], .pick 22 (.t 33) (.c (.bool false)), [34], (some 34), some (7, false)⟩,
    ⟨false, [], [], .pick 19 (.c (.bool true)) (.t 34), [35], (some 35), none⟩]))
  (.cond (.t 35)
   (.seq (.rg [o1 4 (.lit [.b] [.bool false])])
   .ret)
   .skip))))
  (.rg [o1 10 (.copy 5),
    o1 11 (.data (.bin .add) [.t 10, .c (.int .i64 (1))]),
    o1 5 (.copy 11)])))))))
 (.seq (.rg [o1 36 (.copy 1),
   o1 37 (.len 36),
   o1 38 (.data (.bin .leq) [.t 37, .c (.int .i64 (66))]),
   o1 4 (.copy 38)])
 .ret)))
def s101 : Sig := ⟨[.rd false [.d], .rd false [.sl (.own none) [.d, .d]]], (.one false [.d])⟩
noncomputable def E101 : TEnv := envOf [(128, p128), (135, p135)]
noncomputable def f101 (n : Nat) : Int × (List (Int × Int)) → Option ((Bool) × (Unit)) := runFn n E101 c101 [[.i .i64], [.sl [.i .i64, .i .i64]]] [.b] [] [4] .no
noncomputable def g101 : Int × (List (Int × Int)) → Option ((Bool) × (Unit)) := f101 BIG
noncomputable def p101 : TSp := ⟨s101, [[.i .i64], [.sl [.i .i64, .i .i64]]], [.b], [], Ou.j .no, g101⟩
theorem k101 : chkW PG E101 101 s101 (c101.ht 39) .no = some (c101.wc E101, [4]) := by kernel_rfl
theorem ok101 : p101.Ok PG 101 := mkOk (env_cons ok128 (env_cons ok135 (env_nil PG))) k101 (by kernel_rfl)
theorem e101 (n : Nat) (a0 : Int) (a1 : List (Int × Int)) : f101 n (a0, a1) =
  Option.bind (loopT n (fun (self1 : Int → Option ((Unit) ⊕ (Bool))) (x0 : Int) =>
    bif decide (x0 < (a1.length : Int)) then
     Option.bind (Option.bind (bnd a1.length x0 fun n2 =>
       Option.bind a1[n2]? fun y3 =>
       Option.bind (g128 (a0, y3)) fun r4 =>
       bif !r4.1 then
        some true
       else bif decide ((0 : Int) < x0) then
        bnd a1.length (IntKind.wrap .i64 (x0 - (1 : Int))) fun n5 =>
        Option.bind a1[n5]? fun y6 =>
        bnd a1.length x0 fun n7 =>
        Option.bind a1[n7]? fun y8 =>
        Option.bind (g135 (y6, y8)) fun r9 =>
        some !r9.1
       else some false : Option (Bool)) fun x10 =>
      bif x10 then
       some (Sum.inr false)
      else some (Sum.inl ()) : Option ((Unit) ⊕ (Bool))) fun y => match y with
     | .inl x11 =>
      self1 (IntKind.wrap .i64 (x0 + (1 : Int)))
     | .inr x11 =>
      some (Sum.inr x11)
    else some (Sum.inl ())) (0 : Int) : Option ((Unit) ⊕ (Bool))) fun y => match y with
  | .inl x12 =>
   some (decide ((a1.length : Int) ≤ (66 : Int)), ())
  | .inr x12 =>
   some (x12, ()) := by kernel_rfl
/- spec.OrderOk -/
def c110 : TC :=
 (.seq (.rg [o1 3 (.a (.t 1)),
   o1 4 (.lit [.b] [.bool false])])
 (.seq (.seq (.join [⟨26, [.b], false⟩] 134217696 none (.rg [o1 5 (.copy 0),
   ⟨false, [], [], .call 1 82 [.t 5, .c [.i .i64] [.int .i64 (1)], .c [.i .i64] [.int .i64 (12)]] .no, [6], (some 6), none⟩,
   o1 7 (.data .not [.t 6]),
   o1 8 (.copy 7),
   ⟨false, [], [], .det 1 (.idx .nil), [9], (some 9), some (3, false)⟩,
   ⟨false, [], [], .det 1 (.load 3 [] 0 (.t 9) 1 false), [10], (some 10), some (3, false)⟩,
   ⟨false, [], [], .call 1 82 [.t 10, .c [.i .i64] [.int .i64 (1)], .c [.i .i64] [.int .i64 (100000)]] .no, [11], (some 11), some (3, false)⟩,
   ⟨false, [], [], .det 1 (.data .not [.t 11]), [12], (some 12), some (3, false)⟩,
   ⟨false, [], [], .pick 8 (.c (.bool true)) (.t 12), [13], (some 13), none⟩,
   o1 14 (.copy 13),
   ⟨false, [], [], .det 1 (.idx .nil), [15], (some 15), some (9, false)⟩,
   ⟨false, [], [], .det 1 (.load 3 [] 1 (.t 15) 1 false), [16], (some 16), some (9, false)⟩,
   ⟨false, [], [], .call 1 82 [.t 16, .c [.i .i64] [.int .i64 (1)], .c [.i .i64] [.int .i64 (4)]] .no, [17], (some 17), some (9, false)⟩,
   ⟨false, [], [], .det 1 (.data .not [.t 17]), [18], (some 18), some (9, false)⟩,
   ⟨false, [], [], .pick 14 (.c (.bool true)) (.t 18), [19], (some 19), none⟩,
   o1 20 (.copy 19),
   ⟨false, [], [], .det 1 (.copy 0), [21], (some 21), some (15, false)⟩,
   ⟨false, [], [], .det 1 (.idx .nil), [22], (some 22), some (15, false)⟩,
   ⟨false, [], [], .det 1 (.load 3 [] 2 (.t 22) 1 false), [23], (some 23), some (15, false)⟩,
   ⟨false, [], [], .call 1 101 [.t 21, .t 23] .no, [24], (some 24), some (15, false)⟩,
   ⟨false, [], [], .det 1 (.data .not [.t 24]), [25], (some 25), some (15, false)⟩,
   ⟨false, [], [], .pick 20 (.c (.bool true)) (.t 25), [26], (some 26), none⟩]))
 (.cond (.t 26)
  (.seq (.rg [o1 4 (.lit [.b] [.bool false])])
  .ret)
  .skip))
 (.seq (.seq (.rg [o1 27 (.idx .nil),
   o1 28 (.load 3 [] 1 (.t 27) 1 false)])
 (.block 0 (.seq (.rg [o1 30 (.data (.bin .eql) [.t 28, .c (.int .i64 (3))]),
   o1 29 (.copy 30)])
 (.cond (.t 29)
  (.seq (.join [⟨4, [.b], false⟩] 4395899027472 none (.rg [o1 31 (.idx .nil),
    o1 32 (.load 3 [] 2 (.t 31) 1 false),
    o1 33 (.len 32),
    o1 34 (.data (.bin .eql) [.t 33, .c (.int .i64 (0))]),
    o1 35 (.copy 34),
    ⟨false, [], [], .det 1 (.idx .nil), [36], (some 36), some (4, true)⟩,
    ⟨false, [], [], .det 1 (.load 3 [] 3 (.t 36) 1 false), [37], (some 37), some (4, true)⟩,
    ⟨false, [], [], .det 1 (.copy 0), [38], (some 38), some (4, true)⟩,
    ⟨false, [], [], .det 1 (.data (.bin .sub) [.t 38, .c (.int .i64 (1))]), [39], (some 39), some (4, true)⟩,
    ⟨false, [], [], .call 1 82 [.t 37, .c [.i .i64] [.int .i64 (0)], .t 39] .no, [40], (some 40), some (4, true)⟩,
    ⟨false, [], [], .pick 35 (.t 40) (.c (.bool false)), [41], (some 41), none⟩,
    o1 4 (.copy 41)]))
  .ret)
  (.seq (.rg [o1 43 (.data (.bin .eql) [.t 28, .c (.int .i64 (4))]),
    o1 42 (.copy 43)])
  (.cond (.t 42)
   (.seq (.join [⟨4, [.b], false⟩] 8989607068696592 none (.rg [o1 44 (.idx .nil),
     o1 45 (.load 3 [] 2 (.t 44) 1 false),
     o1 46 (.len 45),
     o1 47 (.data (.bin .gtr) [.t 46, .c (.int .i64 (0))]),
     o1 48 (.copy 47),
     ⟨false, [], [], .det 1 (.idx .nil), [49], (some 49), some (4, true)⟩,
     ⟨false, [], [], .det 1 (.load 3 [] 3 (.t 49) 1 false), [50], (some 50), some (4, true)⟩,
     ⟨false, [], [], .det 1 (.data (.bin .eql) [.t 50, .c (.int .i64 (0))]), [51], (some 51), some (4, true)⟩,
     ⟨false, [], [], .pick 48 (.t 51) (.c (.bool false)), [52], (some 52), none⟩,
     o1 4 (.copy 52)]))
   .ret)
   .skip))))))
 (.seq (.join [⟨4, [.b], false⟩] 4602678819172646928 none (.rg [o1 53 (.idx .nil),
   o1 54 (.load 3 [] 2 (.t 53) 1 false),
   o1 55 (.len 54),
   o1 56 (.data (.bin .eql) [.t 55, .c (.int .i64 (1))]),
   o1 57 (.copy 56),
   ⟨false, [], [], .det 1 (.idx .nil), [58], (some 58), some (4, true)⟩,
   ⟨false, [], [], .det 1 (.load 3 [] 3 (.t 58) 1 false), [59], (some 59), some (4, true)⟩,
   ⟨false, [], [], .det 1 (.data (.bin .eql) [.t 59, .c (.int .i64 (0))]), [60], (some 60), some (4, true)⟩,
   ⟨false, [], [], .pick 57 (.t 60) (.c (.bool false)), [61], (some 61), none⟩,
   o1 4 (.copy 61)]))
 .ret))))
def s110 : Sig := ⟨[.rd false [.d], .rd true [.d, .d, .sl (.own none) [.d, .d], .d]], (.one false [.d])⟩
noncomputable def E110 : TEnv := envOf [(82, p82), (101, p101)]
noncomputable def f110 (n : Nat) : Int × (Int × Int × List (Int × Int) × Int) → Option ((Bool) × (Unit)) := runFn n E110 c110 [[.i .i64], [.i .i64, .i .i64, .sl [.i .i64, .i .i64], .i .i64]] [.b] [] [4] .no
noncomputable def g110 : Int × (Int × Int × List (Int × Int) × Int) → Option ((Bool) × (Unit)) := f110 BIG
noncomputable def p110 : TSp := ⟨s110, [[.i .i64], [.i .i64, .i .i64, .sl [.i .i64, .i .i64], .i .i64]], [.b], [], Ou.j .no, g110⟩
theorem k110 : chkW PG E110 110 s110 (c110.ht 62) .no = some (c110.wc E110, [4]) := by kernel_rfl
theorem ok110 : p110.Ok PG 110 := mkOk (env_cons ok82 (env_cons ok101 (env_nil PG))) k110 (by kernel_rfl)
theorem e110 (n : Nat) (a0 : Int) (a1 : Int × Int × List (Int × Int) × Int) : f110 n (a0, a1) =
  Option.bind (Option.bind (g82 (a0, (1 : Int), (12 : Int))) fun r0 =>
   bif !r0.1 then
    some true
   else Option.bind (g82 (a1.1, (1 : Int), (100000 : Int))) fun r1 =>
   bif !r1.1 then
    some true
   else Option.bind (g82 (a1.2.1, (1 : Int), (4 : Int))) fun r2 =>
   bif !r2.1 then
    some true
   else Option.bind (g101 (a0, a1.2.2.1)) fun r3 =>
   some !r3.1 : Option (Bool)) fun x4 =>
  bif x4 then
   some (false, ())
  else bif decide (a1.2.1 = (3 : Int)) then
   Option.bind (bif decide ((a1.2.2.1.length : Int) = (0 : Int)) then
     Option.bind (g82 (a1.2.2.2, (0 : Int), IntKind.wrap .i64 (a0 - (1 : Int)))) fun r5 =>
     some r5.1
    else some false : Option (Bool)) fun x6 =>
   some (x6, ())
  else bif decide (a1.2.1 = (4 : Int)) then
   Option.bind (bif decide ((0 : Int) < (a1.2.2.1.length : Int)) then
     some (decide (a1.2.2.2 = (0 : Int)))
    else some false : Option (Bool)) fun x7 =>
   some (x7, ())
  else Option.bind (bif decide ((a1.2.2.1.length : Int) = (1 : Int)) then
    some (decide (a1.2.2.2 = (0 : Int)))
   else some false : Option (Bool)) fun x8 =>
  some (x8, ()) := by kernel_rfl
/- spec.l01Var -/
def c111 : TC :=
 (.seq (.rg [o1 2 (.lit [.s] [.string ⟨#[]⟩])])
 (.seq (.rg [o1 4 (.sli [.i .u8] []),
   ⟨false, [], [], .det 2 (.copy 4), [3, 4], (some 3), none⟩])
 (.seq (.join [⟨3, [.sl [.i .u8]], false⟩, ⟨0, [.i .i64], false⟩] 65513 none (.block 0 (.loop [⟨3, [.sl [.i .u8]], false⟩, ⟨0, [.i .i64], false⟩] 65513
  (.seq (.seq (.rg [o1 5 (.copy 0),
    o1 6 (.data (.bin .gtr) [.t 5, .c (.int .i64 (127))])])
  (.cond (.t 6)
   .skip
   (.exit 0)))
  (.block 1 (.seq (.rg [⟨false, [], [], .det 2 (.copy 3), [7, 3], (some 7), none⟩,
    o1 8 (.copy 0),
    o1 9 (.data (.bin .rem) [.t 8, .c (.int .i64 (128))]),
    o1 10 (.data (.bin .add) [.t 9, .c (.int .i64 (128))]),
    o1 11 (.data (.conv .u8) [.t 10]),
    o1 12 (.sli [.i .u8] [.t 11]),
    ⟨false, [], [], .det 2 (.app (some 7) 12), [13, 7], (some 13), none⟩,
    ⟨false, [], [], .det 2 (.copy 13), [3, 13], (some 3), none⟩])
  (.rg [o1 14 (.copy 0),
    o1 15 (.data (.bin .quo) [.t 14, .c (.int .i64 (128))]),
    o1 0 (.copy 15)])))))))
 (.seq (.rg [⟨false, [], [], .det 2 (.copy 3), [16, 3], (some 16), none⟩,
   o1 17 (.copy 0),
   o1 18 (.data (.conv .u8) [.t 17]),
   o1 19 (.sli [.i .u8] [.t 18]),
   ⟨false, [], [], .det 2 (.app (some 16) 19), [20, 16], (some 20), none⟩,
   o1 21 (.bytes 20),
   o1 2 (.copy 21)])
 .ret))))
def s111 : Sig := ⟨[.rd false [.d]], (.one false [.d])⟩
noncomputable def E111 : TEnv := envOf []
noncomputable def f111 (n : Nat) : Int → Option ((ByteArray) × (Unit)) := runFn n E111 c111 [[.i .i64]] [.s] [] [2] .no
noncomputable def g111 : Int → Option ((ByteArray) × (Unit)) := f111 BIG
noncomputable def p111 : TSp := ⟨s111, [[.i .i64]], [.s], [], Ou.j .no, g111⟩
theorem k111 : chkW PG E111 111 s111 (c111.ht 22) .no = some (c111.wc E111, [2]) := by kernel_rfl
theorem ok111 : p111.Ok PG 111 := mkOk (env_nil PG) k111 (by kernel_rfl)
theorem e111 (n : Nat) (a0 : Int) : f111 n a0 =
  Option.bind (loopT n (fun (self1 : (List (Int)) × Int → Option ((List (Int)) × Int)) (x0 : (List (Int)) × Int) =>
    bif decide ((127 : Int) < x0.2) then
     bif decide ((128 : Int) = 0) then
      none
     else bif decide (x0.1.length + ([IntKind.wrap .u8 (IntKind.wrap .i64 ((Int.tmod x0.2 (128 : Int)) + (128 : Int)))]).length ≤ 4294967296) then
      bif decide ((128 : Int) = 0) then
       none
      else self1 (x0.1 ++ ([IntKind.wrap .u8 (IntKind.wrap .i64 ((Int.tmod x0.2 (128 : Int)) + (128 : Int)))]), IntKind.wrap .i64 (Int.tdiv x0.2 (128 : Int)))
     else none
    else some (x0.1, x0.2)) ([], a0) : Option ((List (Int)) × Int)) fun x2 =>
  bif decide (x2.1.length + ([IntKind.wrap .u8 (x2.2)]).length ≤ 4294967296) then
   some (bytesStr (x2.1 ++ ([IntKind.wrap .u8 (x2.2)])), ())
  else none := by kernel_rfl
/- spec.l09Byte -/
def c112 : TC :=
 (.seq (.rg [o1 2 (.lit [.s] [.string ⟨#[]⟩])])
 (.seq (.rg [o1 3 (.copy 0),
   o1 4 (.data (.conv .u8) [.t 3]),
   o1 5 (.sli [.i .u8] [.t 4]),
   o1 6 (.bytes 5),
   o1 2 (.copy 6)])
 .ret))
def s112 : Sig := ⟨[.rd false [.d]], (.one false [.d])⟩
noncomputable def E112 : TEnv := envOf []
noncomputable def f112 (n : Nat) : Int → Option ((ByteArray) × (Unit)) := runFn n E112 c112 [[.i .i64]] [.s] [] [2] .no
noncomputable def g112 : Int → Option ((ByteArray) × (Unit)) := f112 BIG
noncomputable def p112 : TSp := ⟨s112, [[.i .i64]], [.s], [], Ou.j .no, g112⟩
theorem k112 : chkW PG E112 112 s112 (c112.ht 7) .no = some (c112.wc E112, [2]) := by kernel_rfl
theorem ok112 : p112.Ok PG 112 := mkOk (env_nil PG) k112 (by kernel_rfl)
theorem e112 (n : Nat) (a0 : Int) : f112 n a0 =
  some (bytesStr ([IntKind.wrap .u8 (a0)]), ()) := by kernel_rfl
/- spec.l09Edges -/
def c113 : TC :=
 (.seq (.rg [o1 2 (.lit [.s] [.string ⟨#[]⟩])])
 (.seq (.rg [o1 5 (.copy 0),
   o1 6 (.len 5),
   ⟨false, [], [], .call 1 111 [.t 6] .no, [7], (some 7), none⟩,
   o1 3 (.copy 7)])
 (.seq (.join [⟨3, [.s], false⟩] 536870680 none (.seq (.rg [o1 4 (.lit [.i .i64] [.int .i64 (0)])])
 (.block 0 (.loop [⟨3, [.s], false⟩, ⟨4, [.i .i64], false⟩] 536870680
  (.seq (.seq (.rg [o1 8 (.copy 4),
    o1 9 (.copy 0),
    o1 10 (.len 9),
    o1 11 (.data (.bin .lss) [.t 8, .t 10])])
  (.cond (.t 11)
   .skip
   (.exit 0)))
  (.seq (.block 1 (.rg [o1 14 (.copy 3),
    o1 15 (.copy 0),
    o1 16 (.copy 4),
    o1 17 (.index 15 (.t 16)),
    o1 18 (.idx (.t 17)),
    o1 19 (.load 15 [(0, 2)] 0 (.t 18) 1 false),
    ⟨false, [], [], .call 1 112 [.t 19] .no, [20], (some 20), none⟩,
    o1 21 (.data (.bin .add) [.t 14, .t 20]),
    o1 22 (.copy 0),
    o1 23 (.copy 4),
    o1 24 (.index 22 (.t 23)),
    o1 25 (.idx (.t 24)),
    o1 26 (.load 22 [(0, 2)] 1 (.t 25) 1 false),
    ⟨false, [], [], .call 1 112 [.t 26] .no, [27], (some 27), none⟩,
    o1 28 (.data (.bin .add) [.t 21, .t 27]),
    o1 3 (.copy 28)]))
  (.rg [o1 12 (.copy 4),
    o1 13 (.data (.bin .add) [.t 12, .c (.int .i64 (1))]),
    o1 4 (.copy 13)])))))))
 (.seq (.rg [o1 29 (.copy 3),
   o1 2 (.copy 29)])
 .ret))))
def s113 : Sig := ⟨[.rd false [.sl (.own none) [.d, .d]]], (.one false [.d])⟩
noncomputable def E113 : TEnv := envOf [(111, p111), (112, p112)]
noncomputable def f113 (n : Nat) : (List (Int × Int)) → Option ((ByteArray) × (Unit)) := runFn n E113 c113 [[.sl [.i .i64, .i .i64]]] [.s] [] [2] .no
noncomputable def g113 : (List (Int × Int)) → Option ((ByteArray) × (Unit)) := f113 BIG
noncomputable def p113 : TSp := ⟨s113, [[.sl [.i .i64, .i .i64]]], [.s], [], Ou.j .no, g113⟩
theorem k113 : chkW PG E113 113 s113 (c113.ht 30) .no = some (c113.wc E113, [2]) := by kernel_rfl
theorem ok113 : p113.Ok PG 113 := mkOk (env_cons ok111 (env_cons ok112 (env_nil PG))) k113 (by kernel_rfl)
theorem e113 (n : Nat) (a0 : List (Int × Int)) : f113 n a0 =
  Option.bind (g111 (a0.length : Int)) fun r0 =>
  Option.bind (loopT n (fun (self2 : ByteArray × Int → Option (ByteArray)) (x1 : ByteArray × Int) =>
    bif decide (x1.2 < (a0.length : Int)) then
     bnd a0.length x1.2 fun n3 =>
     Option.bind a0[n3]? fun y4 =>
     Option.bind (g112 y4.1) fun r5 =>
     bif decide (x1.1.size + r5.1.size ≤ 4611686018427387904) then
      bnd a0.length x1.2 fun n6 =>
      Option.bind a0[n6]? fun y7 =>
      Option.bind (g112 y7.2) fun r8 =>
      bif decide ((x1.1 ++ r5.1).size + r8.1.size ≤ 4611686018427387904) then
       self2 ((x1.1 ++ r5.1) ++ r8.1, IntKind.wrap .i64 (x1.2 + (1 : Int)))
      else none
     else none
    else some x1.1) (r0.1, (0 : Int)) : Option (ByteArray)) fun x9 =>
  some (x9, ()) := by kernel_rfl
/- spec.OrderText -/
def c55 : TC :=
 (.seq (.rg [o1 3 (.a (.t 1)),
   o1 4 (.lit [.s] [.string ⟨#[]⟩]),
   o1 5 (.lit [.b] [.bool false])])
 (.seq (.seq (.rg [o1 6 (.copy 0),
   o1 7 (.load 3 [] 0 .nil 4 false),
   ⟨false, [], [], .call 1 110 [.t 6, .t 7] .no, [8], (some 8), none⟩,
   o1 9 (.data .not [.t 8])])
 (.cond (.t 9)
  (.seq (.rg [o1 4 (.lit [.s] [.string ⟨#[]⟩]),
    o1 5 (.lit [.b] [.bool false])])
  .ret)
  .skip))
 (.seq (.rg [o1 10 (.idx .nil),
   o1 11 (.load 3 [] 0 (.t 10) 1 false),
   ⟨false, [], [], .call 1 111 [.t 11] .no, [12], (some 12), none⟩,
   o1 13 (.idx .nil),
   o1 14 (.load 3 [] 1 (.t 13) 1 false),
   ⟨false, [], [], .call 1 112 [.t 14] .no, [15], (some 15), none⟩,
   o1 16 (.data (.bin .add) [.t 12, .t 15]),
   o1 17 (.idx .nil),
   o1 18 (.load 3 [] 3 (.t 17) 1 false),
   ⟨false, [], [], .call 1 111 [.t 18] .no, [19], (some 19), none⟩,
   o1 20 (.data (.bin .add) [.t 16, .t 19]),
   o1 21 (.idx .nil),
   o1 22 (.load 3 [] 2 (.t 21) 1 false),
   ⟨false, [], [], .call 1 113 [.t 22] .no, [23], (some 23), none⟩,
   o1 24 (.data (.bin .add) [.t 20, .t 23]),
   o1 4 (.copy 24),
   o1 5 (.lit [.b] [.bool true])])
 .ret)))
def s55 : Sig := ⟨[.rd false [.d], .rd true [.d, .d, .sl (.own none) [.d, .d], .d]], (.tup [(false, 1), (false, 1)] [.d, .d])⟩
noncomputable def E55 : TEnv := envOf [(110, p110), (111, p111), (112, p112), (113, p113)]
noncomputable def f55 (n : Nat) : Int × (Int × Int × List (Int × Int) × Int) → Option ((ByteArray × Bool) × (Unit)) := runFn n E55 c55 [[.i .i64], [.i .i64, .i .i64, .sl [.i .i64, .i .i64], .i .i64]] [.s, .b] [] [4, 5] .no
noncomputable def g55 : Int × (Int × Int × List (Int × Int) × Int) → Option ((ByteArray × Bool) × (Unit)) := f55 BIG
noncomputable def p55 : TSp := ⟨s55, [[.i .i64], [.i .i64, .i .i64, .sl [.i .i64, .i .i64], .i .i64]], [.s, .b], [], Ou.j .no, g55⟩
theorem k55 : chkW PG E55 55 s55 (c55.ht 25) .no = some (c55.wc E55, [4, 5]) := by kernel_rfl
theorem ok55 : p55.Ok PG 55 := mkOk (env_cons ok110 (env_cons ok111 (env_cons ok112 (env_cons ok113 (env_nil PG))))) k55 (by kernel_rfl)
theorem e55 (n : Nat) (a0 : Int) (a1 : Int × Int × List (Int × Int) × Int) : f55 n (a0, a1) =
  Option.bind (g110 (a0, a1)) fun r0 =>
  bif !r0.1 then
   some (((ByteArray.mk #[]), false), ())
  else Option.bind (g111 a1.1) fun r1 =>
  Option.bind (g112 a1.2.1) fun r2 =>
  bif decide (r1.1.size + r2.1.size ≤ 4611686018427387904) then
   Option.bind (g111 a1.2.2.2) fun r3 =>
   bif decide ((r1.1 ++ r2.1).size + r3.1.size ≤ 4611686018427387904) then
    Option.bind (g113 a1.2.2.1) fun r4 =>
    bif decide (((r1.1 ++ r2.1) ++ r3.1).size + r4.1.size ≤ 4611686018427387904) then
     some ((((r1.1 ++ r2.1) ++ r3.1) ++ r4.1, true), ())
    else none
   else none
  else none := by kernel_rfl
/- impl.EdgeOk -/
def c37 : TC :=
 (.seq (.rg [o1 3 (.a (.t 1)),
   o1 4 (.lit [.b] [.bool false])])
 (.seq (.join [⟨4, [.b], false⟩] 268435440 none (.rg [o1 5 (.copy 0),
   ⟨false, [], [], .call 1 84 [.t 5, .c [.i .i64] [.int .i64 (1)], .c [.i .i64] [.int .i64 (12)]] .no, [6], (some 6), none⟩,
   o1 7 (.copy 6),
   ⟨false, [], [], .det 1 (.idx .nil), [8], (some 8), some (2, true)⟩,
   ⟨false, [], [], .det 1 (.load 3 [] 0 (.t 8) 1 false), [9], (some 9), some (2, true)⟩,
   ⟨false, [], [], .det 1 (.copy 0), [10], (some 10), some (2, true)⟩,
   ⟨false, [], [], .det 1 (.data (.bin .sub) [.t 10, .c (.int .i64 (1))]), [11], (some 11), some (2, true)⟩,
   ⟨false, [], [], .call 1 84 [.t 9, .c [.i .i64] [.int .i64 (0)], .t 11] .no, [12], (some 12), some (2, true)⟩,
   ⟨false, [], [], .pick 7 (.t 12) (.c (.bool false)), [13], (some 13), none⟩,
   o1 14 (.copy 13),
   ⟨false, [], [], .det 1 (.idx .nil), [15], (some 15), some (9, true)⟩,
   ⟨false, [], [], .det 1 (.load 3 [] 1 (.t 15) 1 false), [16], (some 16), some (9, true)⟩,
   ⟨false, [], [], .det 1 (.copy 0), [17], (some 17), some (9, true)⟩,
   ⟨false, [], [], .det 1 (.data (.bin .sub) [.t 17, .c (.int .i64 (1))]), [18], (some 18), some (9, true)⟩,
   ⟨false, [], [], .call 1 84 [.t 16, .c [.i .i64] [.int .i64 (0)], .t 18] .no, [19], (some 19), some (9, true)⟩,
   ⟨false, [], [], .pick 14 (.t 19) (.c (.bool false)), [20], (some 20), none⟩,
   o1 21 (.copy 20),
   ⟨false, [], [], .det 1 (.idx .nil), [22], (some 22), some (16, true)⟩,
   ⟨false, [], [], .det 1 (.load 3 [] 0 (.t 22) 1 false), [23], (some 23), some (16, true)⟩,
   ⟨false, [], [], .det 1 (.idx .nil), [24], (some 24), some (16, true)⟩,
   ⟨false, [], [], .det 1 (.load 3 [] 1 (.t 24) 1 false), [25], (some 25), some (16, true)⟩,
   ⟨false, [], [], .det 1 (.data (.bin .lss) [.t 23, .t 25]), [26], (some 26), some (16, true)⟩,
   ⟨false, [], [], .pick 21 (.t 26) (.c (.bool false)), [27], (some 27), none⟩,
   o1 4 (.copy 27)]))
 .ret))
def s37 : Sig := ⟨[.rd false [.d], .rd true [.d, .d]], (.one false [.d])⟩
noncomputable def E37 : TEnv := envOf [(84, p84)]
noncomputable def f37 (n : Nat) : Int × (Int × Int) → Option ((Bool) × (Unit)) := runFn n E37 c37 [[.i .i64], [.i .i64, .i .i64]] [.b] [] [4] .no
noncomputable def g37 : Int × (Int × Int) → Option ((Bool) × (Unit)) := f37 BIG
noncomputable def p37 : TSp := ⟨s37, [[.i .i64], [.i .i64, .i .i64]], [.b], [], Ou.j .no, g37⟩
theorem k37 : chkW PG E37 37 s37 (c37.ht 28) .no = some (c37.wc E37, [4]) := by kernel_rfl
theorem ok37 : p37.Ok PG 37 := mkOk (env_cons ok84 (env_nil PG)) k37 (by kernel_rfl)
theorem e37 (n : Nat) (a0 : Int) (a1 : Int × Int) : f37 n (a0, a1) =
  Option.bind (Option.bind (g84 (a0, (1 : Int), (12 : Int))) fun r0 =>
   bif r0.1 then
    Option.bind (g84 (a1.1, (0 : Int), IntKind.wrap .i64 (a0 - (1 : Int)))) fun r1 =>
    bif r1.1 then
     Option.bind (g84 (a1.2, (0 : Int), IntKind.wrap .i64 (a0 - (1 : Int)))) fun r2 =>
     bif r2.1 then
      some (decide (a1.1 < a1.2))
     else some false
    else some false
   else some false : Option (Bool)) fun x3 =>
  some (x3, ()) := by kernel_rfl
/- impl.ahead -/
def c134 : TC :=
 (.seq (.rg [o1 2 (.a (.t 0)),
   o1 3 (.a (.t 1)),
   o1 4 (.lit [.b] [.bool false])])
 (.seq (.join [⟨4, [.b], false⟩] 16777200 none (.rg [o1 5 (.idx .nil),
   o1 6 (.load 2 [] 0 (.t 5) 1 false),
   o1 7 (.idx .nil),
   o1 8 (.load 3 [] 0 (.t 7) 1 false),
   o1 9 (.data (.bin .lss) [.t 6, .t 8]),
   o1 10 (.copy 9),
   ⟨false, [], [], .det 1 (.idx .nil), [11], (some 11), some (5, false)⟩,
   ⟨false, [], [], .det 1 (.load 2 [] 0 (.t 11) 1 false), [12], (some 12), some (5, false)⟩,
   ⟨false, [], [], .det 1 (.idx .nil), [13], (some 13), some (5, false)⟩,
   ⟨false, [], [], .det 1 (.load 3 [] 0 (.t 13) 1 false), [14], (some 14), some (5, false)⟩,
   ⟨false, [], [], .det 1 (.data (.bin .eql) [.t 12, .t 14]), [15], (some 15), some (5, false)⟩,
   ⟨false, [], [], .det 1 (.copy 15), [16], (some 16), some (5, false)⟩,
   ⟨false, [], [], .det 1 (.idx .nil), [17], (some 17), some (11, true)⟩,
   ⟨false, [], [], .det 1 (.load 2 [] 1 (.t 17) 1 false), [18], (some 18), some (11, true)⟩,
   ⟨false, [], [], .det 1 (.idx .nil), [19], (some 19), some (11, true)⟩,
   ⟨false, [], [], .det 1 (.load 3 [] 1 (.t 19) 1 false), [20], (some 20), some (11, true)⟩,
   ⟨false, [], [], .det 1 (.data (.bin .lss) [.t 18, .t 20]), [21], (some 21), some (11, true)⟩,
   ⟨false, [], [], .pick 16 (.t 21) (.c (.bool false)), [22], (some 22), some (5, false)⟩,
   ⟨false, [], [], .pick 10 (.c (.bool true)) (.t 22), [23], (some 23), none⟩,
   o1 4 (.copy 23)]))
 .ret))
def s134 : Sig := ⟨[.rd true [.d, .d], .rd true [.d, .d]], (.one false [.d])⟩
noncomputable def E134 : TEnv := envOf []
noncomputable def f134 (n : Nat) : (Int × Int) × (Int × Int) → Option ((Bool) × (Unit)) := runFn n E134 c134 [[.i .i64, .i .i64], [.i .i64, .i .i64]] [.b] [] [4] .no
noncomputable def g134 : (Int × Int) × (Int × Int) → Option ((Bool) × (Unit)) := f134 BIG
noncomputable def p134 : TSp := ⟨s134, [[.i .i64, .i .i64], [.i .i64, .i .i64]], [.b], [], Ou.j .no, g134⟩
theorem k134 : chkW PG E134 134 s134 (c134.ht 24) .no = some (c134.wc E134, [4]) := by kernel_rfl
theorem ok134 : p134.Ok PG 134 := mkOk (env_nil PG) k134 (by kernel_rfl)
theorem e134 (n : Nat) (a0 : Int × Int) (a1 : Int × Int) : f134 n (a0, a1) =
  Option.bind (bif decide (a0.1 < a1.1) then
    some true
   else bif decide (a0.1 = a1.1) then
    some (decide (a0.2 < a1.2))
   else some false : Option (Bool)) fun x0 =>
  some (x0, ()) := by kernel_rfl
/- impl.edgesOk -/
def c99 : TC :=
 (.seq (.rg [o1 4 (.lit [.b] [.bool false])])
 (.seq (.join [] 8589934576 (some [⟨4, [.b], false⟩]) (.seq (.rg [o1 7 (.copy 1),
   o1 8 (.len 7),
   o1 9 (.lit [.i .i64] [.int .i64 (0)])])
 (.block 0 (.loop [⟨9, [.i .i64], false⟩] 8589934192
  (.seq (.rg [o1 10 (.data (.bin .lss) [.t 9, .t 8])])
  (.seq (.cond (.t 10)
   .skip
   (.exit 0))
  (.seq (.join [] 4294965360 (some [⟨4, [.b], false⟩]) (.block 1 (.seq (.rg [o1 11 (.copy 9),
    o1 12 (.index 7 (.t 9)),
    o1 13 (.load 7 [(0, 2)] 0 (.t 12) 2 false),
    ⟨false, [], [], .det 2 (.a (.c [.i .i64, .i .i64] [.int .i64 (0), .int .i64 (0)])), [6, 1000000001], (some 6), none⟩,
    o1 5 (.copy 11),
    ⟨false, [], [], .det 1 (.store 6 [] 0 .nil (.t 13)), [6], none, none⟩])
  (.seq (.join [⟨31, [.b], false⟩] 4294950912 none (.rg [o1 14 (.copy 0),
    o1 15 (.load 6 [] 0 .nil 2 false),
    ⟨false, [], [], .call 1 37 [.t 14, .t 15] .no, [16], (some 16), none⟩,
    o1 17 (.data .not [.t 16]),
    o1 18 (.copy 17),
    ⟨false, [], [], .det 1 (.copy 5), [19], (some 19), some (4, false)⟩,
    ⟨false, [], [], .det 1 (.data (.bin .gtr) [.t 19, .c (.int .i64 (0))]), [20], (some 20), some (4, false)⟩,
    ⟨false, [], [], .det 1 (.copy 20), [21], (some 21), some (4, false)⟩,
    ⟨false, [], [], .det 1 (.copy 1), [22], (some 22), some (7, true)⟩,
    ⟨false, [], [], .det 1 (.copy 5), [23], (some 23), some (7, true)⟩,
    ⟨false, [], [], .det 1 (.data (.bin .sub) [.t 23, .c (.int .i64 (1))]), [24], (some 24), some (7, true)⟩,
    ⟨false, [], [], .det 1 (.index 22 (.t 24)), [25], (some 25), some (7, true)⟩,
    ⟨false, [], [], .det 1 (.load 22 [(0, 2)] 0 (.t 25) 2 false), [26], (some 26), some (7, true)⟩,
    ⟨false, [], [], .det 1 (.load 6 [] 0 .nil 2 false), [27], (some 27), some (7, true)⟩,
    ⟨false, [], [], .call 1 134 [.t 26, .t 27] .no, [28], (some 28), some (7, true)⟩,
    ⟨false, [], [], .det 1 (.data .not [.t 28]), [29], (some 29), some (7, true)⟩,
    ⟨false, [], [], .pick 21 (.t 29) (.c (.bool false)), [30], (some 30), some (4, false)⟩,
    ⟨false, [], [], .pick 18 (.c (.bool true)) (.t 30), [31], (some 31), none⟩]))
  (.cond (.t 31)
   (.seq (.rg [o1 4 (.lit [.b] [.bool false])])
   .ret)
   .skip)))))
  (.rg [o1 32 (.data (.bin .add) [.t 9, .c (.int .i64 (1))]),
    o1 9 (.copy 32)]))))))))
 (.seq (.rg [o1 33 (.copy 1),
   o1 34 (.len 33),
   o1 35 (.data (.bin .leq) [.t 34, .c (.int .i64 (66))]),
   o1 4 (.copy 35)])
 .ret)))
def s99 : Sig := ⟨[.rd false [.d], .rd false [.sl (.own none) [.d, .d]]], (.one false [.d])⟩
noncomputable def E99 : TEnv := envOf [(37, p37), (134, p134)]
noncomputable def f99 (n : Nat) : Int × (List (Int × Int)) → Option ((Bool) × (Unit)) := runFn n E99 c99 [[.i .i64], [.sl [.i .i64, .i .i64]]] [.b] [] [4] .no
noncomputable def g99 : Int × (List (Int × Int)) → Option ((Bool) × (Unit)) := f99 BIG
noncomputable def p99 : TSp := ⟨s99, [[.i .i64], [.sl [.i .i64, .i .i64]]], [.b], [], Ou.j .no, g99⟩
theorem k99 : chkW PG E99 99 s99 (c99.ht 36) .no = some (c99.wc E99, [4]) := by kernel_rfl
theorem ok99 : p99.Ok PG 99 := mkOk (env_cons ok37 (env_cons ok134 (env_nil PG))) k99 (by kernel_rfl)
theorem e99 (n : Nat) (a0 : Int) (a1 : List (Int × Int)) : f99 n (a0, a1) =
  Option.bind (loopT n (fun (self1 : Int → Option ((Unit) ⊕ (Bool))) (x0 : Int) =>
    bif decide (x0 < (a1.length : Int)) then
     Option.bind (bnd a1.length x0 fun n2 =>
      Option.bind a1[n2]? fun y3 =>
      Option.bind (Option.bind (g37 (a0, (y3.1, y3.2))) fun r4 =>
       bif !r4.1 then
        some true
       else bif decide ((0 : Int) < x0) then
        bnd a1.length (IntKind.wrap .i64 (x0 - (1 : Int))) fun n5 =>
        Option.bind a1[n5]? fun y6 =>
        Option.bind (g134 (y6, (y3.1, y3.2))) fun r7 =>
        some !r7.1
       else some false : Option (Bool)) fun x8 =>
      bif x8 then
       some (Sum.inr false)
      else some (Sum.inl ()) : Option ((Unit) ⊕ (Bool))) fun y => match y with
     | .inl x9 =>
      self1 (IntKind.wrap .i64 (x0 + (1 : Int)))
     | .inr x9 =>
      some (Sum.inr x9)
    else some (Sum.inl ())) (0 : Int) : Option ((Unit) ⊕ (Bool))) fun y => match y with
  | .inl x10 =>
   some (decide ((a1.length : Int) ≤ (66 : Int)), ())
  | .inr x10 =>
   some (x10, ()) := by kernel_rfl
/- impl.OrderOk -/
def c114 : TC :=
 (.seq (.rg [o1 3 (.a (.t 1)),
   o1 4 (.lit [.b] [.bool false])])
 (.seq (.seq (.join [⟨30, [.b], false⟩] 2147483616 none (.rg [o1 5 (.copy 0),
   ⟨false, [], [], .call 1 84 [.t 5, .c [.i .i64] [.int .i64 (1)], .c [.i .i64] [.int .i64 (12)]] .no, [6], (some 6), none⟩,
   o1 7 (.data .not [.t 6]),
   o1 8 (.copy 7),
   ⟨false, [], [], .det 1 (.idx .nil), [9], (some 9), some (3, false)⟩,
   ⟨false, [], [], .det 1 (.load 3 [] 0 (.t 9) 1 false), [10], (some 10), some (3, false)⟩,
   ⟨false, [], [], .call 1 84 [.t 10, .c [.i .i64] [.int .i64 (1)], .c [.i .i64] [.int .i64 (100000)]] .no, [11], (some 11), some (3, false)⟩,
   ⟨false, [], [], .det 1 (.data .not [.t 11]), [12], (some 12), some (3, false)⟩,
   ⟨false, [], [], .pick 8 (.c (.bool true)) (.t 12), [13], (some 13), none⟩,
   o1 14 (.copy 13),
   ⟨false, [], [], .det 1 (.copy 0), [15], (some 15), some (9, false)⟩,
   ⟨false, [], [], .det 1 (.idx .nil), [16], (some 16), some (9, false)⟩,
   ⟨false, [], [], .det 1 (.load 3 [] 2 (.t 16) 1 false), [17], (some 17), some (9, false)⟩,
   ⟨false, [], [], .call 1 99 [.t 15, .t 17] .no, [18], (some 18), some (9, false)⟩,
   ⟨false, [], [], .det 1 (.data .not [.t 18]), [19], (some 19), some (9, false)⟩,
   ⟨false, [], [], .pick 14 (.c (.bool true)) (.t 19), [20], (some 20), none⟩,
   o1 21 (.copy 20),
   ⟨false, [], [], .det 1 (.idx .nil), [22], (some 22), some (16, false)⟩,
   ⟨false, [], [], .det 1 (.load 3 [] 3 (.t 22) 1 false), [23], (some 23), some (16, false)⟩,
   ⟨false, [], [], .det 1 (.data (.bin .neq) [.t 23, .c (.int .i64 (0))]), [24], (some 24), some (16, false)⟩,
   ⟨false, [], [], .det 1 (.copy 24), [25], (some 25), some (16, false)⟩,
   ⟨false, [], [], .det 1 (.idx .nil), [26], (some 26), some (20, true)⟩,
   ⟨false, [], [], .det 1 (.load 3 [] 1 (.t 26) 1 false), [27], (some 27), some (20, true)⟩,
   ⟨false, [], [], .det 1 (.data (.bin .neq) [.t 27, .c (.int .i64 (3))]), [28], (some 28), some (20, true)⟩,
   ⟨false, [], [], .pick 25 (.t 28) (.c (.bool false)), [29], (some 29), some (16, false)⟩,
   ⟨false, [], [], .pick 21 (.c (.bool true)) (.t 29), [30], (some 30), none⟩]))
 (.cond (.t 30)
  (.seq (.rg [o1 4 (.lit [.b] [.bool false])])
  .ret)
  .skip))
 (.seq (.join [] 576460750155939856 (some [⟨4, [.b], false⟩]) (.seq (.rg [o1 31 (.idx .nil),
   o1 32 (.load 3 [] 1 (.t 31) 1 false)])
 (.block 0 (.seq (.join [⟨33, [.b], false⟩] 60129542144 none (.seq (.rg [o1 34 (.data (.bin .eql) [.t 32, .c (.int .i64 (1))]),
   o1 33 (.copy 34)])
 (.cond (.t 33)
  .skip
  (.rg [o1 35 (.data (.bin .eql) [.t 32, .c (.int .i64 (2))]),
    o1 33 (.copy 35)]))))
 (.cond (.t 33)
  (.seq (.rg [o1 36 (.idx .nil),
    o1 37 (.load 3 [] 2 (.t 36) 1 false),
    o1 38 (.len 37),
    o1 39 (.data (.bin .eql) [.t 38, .c (.int .i64 (1))]),
    o1 4 (.copy 39)])
  .ret)
  (.seq (.rg [o1 41 (.data (.bin .eql) [.t 32, .c (.int .i64 (3))]),
    o1 40 (.copy 41)])
  (.cond (.t 40)
   (.seq (.join [⟨4, [.b], false⟩] 9002801208229904 none (.rg [o1 42 (.idx .nil),
     o1 43 (.load 3 [] 2 (.t 42) 1 false),
     o1 44 (.len 43),
     o1 45 (.data (.bin .eql) [.t 44, .c (.int .i64 (0))]),
     o1 46 (.copy 45),
     ⟨false, [], [], .det 1 (.idx .nil), [47], (some 47), some (4, true)⟩,
     ⟨false, [], [], .det 1 (.load 3 [] 3 (.t 47) 1 false), [48], (some 48), some (4, true)⟩,
     ⟨false, [], [], .det 1 (.copy 0), [49], (some 49), some (4, true)⟩,
     ⟨false, [], [], .det 1 (.data (.bin .sub) [.t 49, .c (.int .i64 (1))]), [50], (some 50), some (4, true)⟩,
     ⟨false, [], [], .call 1 84 [.t 48, .c [.i .i64] [.int .i64 (0)], .t 50] .no, [51], (some 51), some (4, true)⟩,
     ⟨false, [], [], .pick 46 (.t 51) (.c (.bool false)), [52], (some 52), none⟩,
     o1 4 (.copy 52)]))
   .ret)
   (.seq (.rg [o1 54 (.data (.bin .eql) [.t 32, .c (.int .i64 (4))]),
     o1 53 (.copy 54)])
   (.cond (.t 53)
    (.seq (.rg [o1 55 (.idx .nil),
      o1 56 (.load 3 [] 2 (.t 55) 1 false),
      o1 57 (.len 56),
      o1 58 (.data (.bin .gtr) [.t 57, .c (.int .i64 (0))]),
      o1 4 (.copy 58)])
    .ret)
    .skip)))))))))
 (.seq (.rg [o1 4 (.lit [.b] [.bool false])])
 .ret))))
def s114 : Sig := ⟨[.rd false [.d], .rd true [.d, .d, .sl (.own none) [.d, .d], .d]], (.one false [.d])⟩
noncomputable def E114 : TEnv := envOf [(84, p84), (99, p99)]
noncomputable def f114 (n : Nat) : Int × (Int × Int × List (Int × Int) × Int) → Option ((Bool) × (Unit)) := runFn n E114 c114 [[.i .i64], [.i .i64, .i .i64, .sl [.i .i64, .i .i64], .i .i64]] [.b] [] [4] .no
noncomputable def g114 : Int × (Int × Int × List (Int × Int) × Int) → Option ((Bool) × (Unit)) := f114 BIG
noncomputable def p114 : TSp := ⟨s114, [[.i .i64], [.i .i64, .i .i64, .sl [.i .i64, .i .i64], .i .i64]], [.b], [], Ou.j .no, g114⟩
theorem k114 : chkW PG E114 114 s114 (c114.ht 59) .no = some (c114.wc E114, [4]) := by kernel_rfl
theorem ok114 : p114.Ok PG 114 := mkOk (env_cons ok84 (env_cons ok99 (env_nil PG))) k114 (by kernel_rfl)
theorem e114 (n : Nat) (a0 : Int) (a1 : Int × Int × List (Int × Int) × Int) : f114 n (a0, a1) =
  Option.bind (Option.bind (g84 (a0, (1 : Int), (12 : Int))) fun r0 =>
   bif !r0.1 then
    some true
   else Option.bind (g84 (a1.1, (1 : Int), (100000 : Int))) fun r1 =>
   bif !r1.1 then
    some true
   else Option.bind (g99 (a0, a1.2.2.1)) fun r2 =>
   bif !r2.1 then
    some true
   else bif !decide (a1.2.2.2 = (0 : Int)) then
    some (!decide (a1.2.1 = (3 : Int)))
   else some false : Option (Bool)) fun x3 =>
  bif x3 then
   some (false, ())
  else Option.bind (Option.bind (bif decide (a1.2.1 = (1 : Int)) then
     some true
    else some (decide (a1.2.1 = (2 : Int))) : Option (Bool)) fun x4 =>
   bif x4 then
    some (Sum.inr (decide ((a1.2.2.1.length : Int) = (1 : Int))))
   else bif decide (a1.2.1 = (3 : Int)) then
    Option.bind (bif decide ((a1.2.2.1.length : Int) = (0 : Int)) then
      Option.bind (g84 (a1.2.2.2, (0 : Int), IntKind.wrap .i64 (a0 - (1 : Int)))) fun r5 =>
      some r5.1
     else some false : Option (Bool)) fun x6 =>
    some (Sum.inr x6)
   else bif decide (a1.2.1 = (4 : Int)) then
    some (Sum.inr (decide ((0 : Int) < (a1.2.2.1.length : Int))))
   else some (Sum.inl ()) : Option ((Unit) ⊕ (Bool))) fun y => match y with
  | .inl x7 =>
   some (false, ())
  | .inr x7 =>
   some (x7, ()) := by kernel_rfl
/- impl.VarText -/
def c115 : TC :=
 (.seq (.rg [o1 2 (.lit [.s] [.string ⟨#[]⟩]),
   o1 3 (.lit [.b] [.bool false])])
 (.seq (.seq (.rg [o1 5 (.copy 0),
   ⟨false, [], [], .call 1 84 [.t 5, .c [.i .i64] [.int .i64 (0)], .c [.i .i64] [.int .i64 (1000000000)]] .no, [6], (some 6), none⟩,
   o1 7 (.data .not [.t 6])])
 (.cond (.t 7)
  (.seq (.rg [o1 2 (.lit [.s] [.string ⟨#[]⟩]),
    o1 3 (.lit [.b] [.bool false])])
  .ret)
  .skip))
 (.seq (.rg [o1 4 (.lit [.sl [.i .u8]] [.slice none 0 0])])
 (.seq (.join [⟨4, [.sl [.i .u8]], false⟩, ⟨0, [.i .i64], false⟩] 524049 none (.block 0 (.loop [⟨4, [.sl [.i .u8]], false⟩, ⟨0, [.i .i64], false⟩] 524049
  (.seq (.seq (.rg [o1 8 (.copy 0),
    o1 9 (.data (.bin .gtr) [.t 8, .c (.int .i64 (127))])])
  (.cond (.t 9)
   .skip
   (.exit 0)))
  (.block 1 (.seq (.rg [⟨false, [], [], .det 2 (.copy 4), [10, 4], (some 10), none⟩,
    o1 11 (.copy 0),
    o1 12 (.data (.bin .rem) [.t 11, .c (.int .i64 (128))]),
    o1 13 (.data (.bin .add) [.t 12, .c (.int .i64 (128))]),
    o1 14 (.data (.conv .u8) [.t 13]),
    o1 15 (.sli [.i .u8] [.t 14]),
    ⟨false, [], [], .det 2 (.app (some 10) 15), [16, 10], (some 16), none⟩,
    ⟨false, [], [], .det 2 (.copy 16), [4, 16], (some 4), none⟩])
  (.rg [o1 17 (.copy 0),
    o1 18 (.data (.bin .quo) [.t 17, .c (.int .i64 (128))]),
    o1 0 (.copy 18)])))))))
 (.seq (.rg [⟨false, [], [], .det 2 (.copy 4), [19, 4], (some 19), none⟩,
   o1 20 (.copy 0),
   o1 21 (.data (.conv .u8) [.t 20]),
   o1 22 (.sli [.i .u8] [.t 21]),
   ⟨false, [], [], .det 2 (.app (some 19) 22), [23, 19], (some 23), none⟩,
   o1 24 (.bytes 23),
   o1 2 (.copy 24),
   o1 3 (.lit [.b] [.bool true])])
 .ret)))))
def s115 : Sig := ⟨[.rd false [.d]], (.tup [(false, 1), (false, 1)] [.d, .d])⟩
noncomputable def E115 : TEnv := envOf [(84, p84)]
noncomputable def f115 (n : Nat) : Int → Option ((ByteArray × Bool) × (Unit)) := runFn n E115 c115 [[.i .i64]] [.s, .b] [] [2, 3] .no
noncomputable def g115 : Int → Option ((ByteArray × Bool) × (Unit)) := f115 BIG
noncomputable def p115 : TSp := ⟨s115, [[.i .i64]], [.s, .b], [], Ou.j .no, g115⟩
theorem k115 : chkW PG E115 115 s115 (c115.ht 25) .no = some (c115.wc E115, [2, 3]) := by kernel_rfl
theorem ok115 : p115.Ok PG 115 := mkOk (env_cons ok84 (env_nil PG)) k115 (by kernel_rfl)
theorem e115 (n : Nat) (a0 : Int) : f115 n a0 =
  Option.bind (g84 (a0, (0 : Int), (1000000000 : Int))) fun r0 =>
  bif !r0.1 then
   some (((ByteArray.mk #[]), false), ())
  else Option.bind (loopT n (fun (self2 : (List (Int)) × Int → Option ((List (Int)) × Int)) (x1 : (List (Int)) × Int) =>
    bif decide ((127 : Int) < x1.2) then
     bif decide ((128 : Int) = 0) then
      none
     else bif decide (x1.1.length + ([IntKind.wrap .u8 (IntKind.wrap .i64 ((Int.tmod x1.2 (128 : Int)) + (128 : Int)))]).length ≤ 4294967296) then
      bif decide ((128 : Int) = 0) then
       none
      else self2 (x1.1 ++ ([IntKind.wrap .u8 (IntKind.wrap .i64 ((Int.tmod x1.2 (128 : Int)) + (128 : Int)))]), IntKind.wrap .i64 (Int.tdiv x1.2 (128 : Int)))
     else none
    else some (x1.1, x1.2)) ([], a0) : Option ((List (Int)) × Int)) fun x3 =>
  bif decide (x3.1.length + ([IntKind.wrap .u8 (x3.2)]).length ≤ 4294967296) then
   some ((bytesStr (x3.1 ++ ([IntKind.wrap .u8 (x3.2)])), true), ())
  else none := by kernel_rfl
/- impl.edgesText -/
def c116 : TC :=
 (.seq (.rg [o1 2 (.lit [.s] [.string ⟨#[]⟩])])
 (.seq (.rg [o1 8 (.copy 0),
   o1 9 (.len 8),
   ⟨false, [], [], .call 1 115 [.t 9] .no, [10], (some 10), none⟩,
   ⟨false, [], [], .det 2 (.copy 10), [7, 10], (some 7), none⟩,
   ⟨false, [], [], .det 2 (.ext 7 0 1), [11, 7], (some 11), none⟩,
   ⟨false, [], [], .det 2 (.ext 7 1 1), [12, 7], (some 12), none⟩,
   o1 3 (.copy 11),
   o1 4 (.copy 12)])
 (.seq (.join [⟨3, [.s], false⟩] 1073733704 none (.seq (.rg [o1 13 (.copy 0),
   o1 14 (.len 13),
   o1 15 (.lit [.i .i64] [.int .i64 (0)])])
 (.block 0 (.loop [⟨3, [.s], false⟩, ⟨15, [.i .i64], false⟩] 1073709128
  (.seq (.rg [o1 16 (.data (.bin .lss) [.t 15, .t 14])])
  (.seq (.cond (.t 16)
   .skip
   (.exit 0))
  (.seq (.block 1 (.seq (.rg [o1 17 (.index 13 (.t 15)),
    o1 18 (.load 13 [(0, 2)] 0 (.t 17) 2 false),
    ⟨false, [], [], .det 2 (.a (.c [.i .i64, .i .i64] [.int .i64 (0), .int .i64 (0)])), [6, 1000000001], (some 6), none⟩,
    ⟨false, [], [], .det 1 (.store 6 [] 0 .nil (.t 18)), [6], none, none⟩])
  (.rg [o1 19 (.copy 3),
    o1 20 (.idx .nil),
    o1 21 (.load 6 [] 0 (.t 20) 1 false),
    o1 22 (.data (.conv .u8) [.t 21]),
    o1 23 (.idx .nil),
    o1 24 (.load 6 [] 1 (.t 23) 1 false),
    o1 25 (.data (.conv .u8) [.t 24]),
    o1 26 (.sli [.i .u8] [.t 22, .t 25]),
    o1 27 (.bytes 26),
    o1 28 (.data (.bin .add) [.t 19, .t 27]),
    o1 3 (.copy 28)])))
  (.rg [o1 29 (.data (.bin .add) [.t 15, .c (.int .i64 (1))]),
    o1 15 (.copy 29)]))))))))
 (.seq (.rg [o1 30 (.copy 3),
   o1 2 (.copy 30)])
 .ret))))
def s116 : Sig := ⟨[.rd false [.sl (.own none) [.d, .d]]], (.one false [.d])⟩
noncomputable def E116 : TEnv := envOf [(115, p115)]
noncomputable def f116 (n : Nat) : (List (Int × Int)) → Option ((ByteArray) × (Unit)) := runFn n E116 c116 [[.sl [.i .i64, .i .i64]]] [.s] [] [2] .no
noncomputable def g116 : (List (Int × Int)) → Option ((ByteArray) × (Unit)) := f116 BIG
noncomputable def p116 : TSp := ⟨s116, [[.sl [.i .i64, .i .i64]]], [.s], [], Ou.j .no, g116⟩
theorem k116 : chkW PG E116 116 s116 (c116.ht 31) .no = some (c116.wc E116, [2]) := by kernel_rfl
theorem ok116 : p116.Ok PG 116 := mkOk (env_cons ok115 (env_nil PG)) k116 (by kernel_rfl)
theorem e116 (n : Nat) (a0 : List (Int × Int)) : f116 n a0 =
  Option.bind (g115 (a0.length : Int)) fun r0 =>
  Option.bind (loopT n (fun (self2 : ByteArray × Int → Option (ByteArray)) (x1 : ByteArray × Int) =>
    bif decide (x1.2 < (a0.length : Int)) then
     bnd a0.length x1.2 fun n3 =>
     Option.bind a0[n3]? fun y4 =>
     bif decide (x1.1.size + (bytesStr ([IntKind.wrap .u8 (y4.1), IntKind.wrap .u8 (y4.2)])).size ≤ 4611686018427387904) then
      self2 (x1.1 ++ (bytesStr ([IntKind.wrap .u8 (y4.1), IntKind.wrap .u8 (y4.2)])), IntKind.wrap .i64 (x1.2 + (1 : Int)))
     else none
    else some x1.1) (r0.1.1, (0 : Int)) : Option (ByteArray)) fun x5 =>
  some (x5, ()) := by kernel_rfl
/- impl.OrderText -/
def c57 : TC :=
 (.seq (.rg [o1 3 (.a (.t 1)),
   o1 4 (.lit [.s] [.string ⟨#[]⟩]),
   o1 5 (.lit [.b] [.bool false])])
 (.seq (.seq (.rg [o1 10 (.copy 0),
   o1 11 (.load 3 [] 0 .nil 4 false),
   ⟨false, [], [], .call 1 114 [.t 10, .t 11] .no, [12], (some 12), none⟩,
   o1 13 (.data .not [.t 12])])
 (.cond (.t 13)
  (.seq (.rg [o1 4 (.lit [.s] [.string ⟨#[]⟩]),
    o1 5 (.lit [.b] [.bool false])])
  .ret)
  .skip))
 (.seq (.rg [o1 15 (.idx .nil),
   o1 16 (.load 3 [] 0 (.t 15) 1 false),
   ⟨false, [], [], .call 1 115 [.t 16] .no, [17], (some 17), none⟩,
   ⟨false, [], [], .det 2 (.copy 17), [14, 17], (some 14), none⟩,
   ⟨false, [], [], .det 2 (.ext 14 0 1), [18, 14], (some 18), none⟩,
   ⟨false, [], [], .det 2 (.ext 14 1 1), [19, 14], (some 19), none⟩,
   o1 6 (.copy 18),
   o1 7 (.copy 19)])
 (.seq (.rg [o1 21 (.idx .nil),
   o1 22 (.load 3 [] 3 (.t 21) 1 false),
   ⟨false, [], [], .call 1 115 [.t 22] .no, [23], (some 23), none⟩,
   ⟨false, [], [], .det 2 (.copy 23), [20, 23], (some 20), none⟩,
   ⟨false, [], [], .det 2 (.ext 20 0 1), [24, 20], (some 24), none⟩,
   ⟨false, [], [], .det 2 (.ext 20 1 1), [25, 20], (some 25), none⟩,
   o1 8 (.copy 24),
   o1 9 (.copy 25)])
 (.seq (.rg [o1 26 (.copy 6),
   o1 27 (.idx .nil),
   o1 28 (.load 3 [] 1 (.t 27) 1 false),
   o1 29 (.data (.conv .u8) [.t 28]),
   o1 30 (.sli [.i .u8] [.t 29]),
   o1 31 (.bytes 30),
   o1 32 (.data (.bin .add) [.t 26, .t 31]),
   o1 33 (.copy 8),
   o1 34 (.data (.bin .add) [.t 32, .t 33]),
   o1 35 (.idx .nil),
   o1 36 (.load 3 [] 2 (.t 35) 1 false),
   ⟨false, [], [], .call 1 116 [.t 36] .no, [37], (some 37), none⟩,
   o1 38 (.data (.bin .add) [.t 34, .t 37]),
   o1 4 (.copy 38),
   o1 5 (.lit [.b] [.bool true])])
 .ret)))))
def s57 : Sig := ⟨[.rd false [.d], .rd true [.d, .d, .sl (.own none) [.d, .d], .d]], (.tup [(false, 1), (false, 1)] [.d, .d])⟩
noncomputable def E57 : TEnv := envOf [(114, p114), (115, p115), (116, p116)]
noncomputable def f57 (n : Nat) : Int × (Int × Int × List (Int × Int) × Int) → Option ((ByteArray × Bool) × (Unit)) := runFn n E57 c57 [[.i .i64], [.i .i64, .i .i64, .sl [.i .i64, .i .i64], .i .i64]] [.s, .b] [] [4, 5] .no
noncomputable def g57 : Int × (Int × Int × List (Int × Int) × Int) → Option ((ByteArray × Bool) × (Unit)) := f57 BIG
noncomputable def p57 : TSp := ⟨s57, [[.i .i64], [.i .i64, .i .i64, .sl [.i .i64, .i .i64], .i .i64]], [.s, .b], [], Ou.j .no, g57⟩
theorem k57 : chkW PG E57 57 s57 (c57.ht 39) .no = some (c57.wc E57, [4, 5]) := by kernel_rfl
theorem ok57 : p57.Ok PG 57 := mkOk (env_cons ok114 (env_cons ok115 (env_cons ok116 (env_nil PG)))) k57 (by kernel_rfl)
theorem e57 (n : Nat) (a0 : Int) (a1 : Int × Int × List (Int × Int) × Int) : f57 n (a0, a1) =
  Option.bind (g114 (a0, a1)) fun r0 =>
  bif !r0.1 then
   some (((ByteArray.mk #[]), false), ())
  else Option.bind (g115 a1.1) fun r1 =>
  Option.bind (g115 a1.2.2.2) fun r2 =>
  bif decide (r1.1.1.size + (bytesStr ([IntKind.wrap .u8 (a1.2.1)])).size ≤ 4611686018427387904) then
   bif decide ((r1.1.1 ++ (bytesStr ([IntKind.wrap .u8 (a1.2.1)]))).size + r2.1.1.size ≤ 4611686018427387904) then
    Option.bind (g116 a1.2.2.1) fun r3 =>
    bif decide (((r1.1.1 ++ (bytesStr ([IntKind.wrap .u8 (a1.2.1)]))) ++ r2.1.1).size + r3.1.size ≤ 4611686018427387904) then
     some ((((r1.1.1 ++ (bytesStr ([IntKind.wrap .u8 (a1.2.1)]))) ++ r2.1.1) ++ r3.1, true), ())
    else none
   else none
  else none := by kernel_rfl
/- laws.eqOrder -/
def c58 : TC :=
 (.seq (.rg [o1 2 (.a (.t 0)),
   o1 3 (.a (.t 1)),
   o1 4 (.lit [.b] [.bool false])])
 (.seq (.seq (.rg [o1 5 (.idx .nil),
   o1 6 (.load 2 [] 0 (.t 5) 1 false),
   o1 7 (.idx .nil),
   o1 8 (.load 3 [] 0 (.t 7) 1 false),
   o1 9 (.data (.bin .neq) [.t 6, .t 8])])
 (.cond (.t 9)
  (.seq (.rg [o1 4 (.lit [.b] [.bool false])])
  .ret)
  .skip))
 (.seq (.seq (.rg [o1 10 (.idx .nil),
   o1 11 (.load 2 [] 1 (.t 10) 1 false),
   o1 12 (.idx .nil),
   o1 13 (.load 3 [] 1 (.t 12) 1 false),
   o1 14 (.data (.bin .neq) [.t 11, .t 13])])
 (.cond (.t 14)
  (.seq (.rg [o1 4 (.lit [.b] [.bool false])])
  .ret)
  .skip))
 (.seq (.seq (.rg [o1 15 (.idx .nil),
   o1 16 (.load 2 [] 2 (.t 15) 1 false),
   o1 17 (.idx .nil),
   o1 18 (.load 3 [] 2 (.t 17) 1 false),
   ⟨false, [], [], .call 1 28 [.t 16, .t 18] .no, [19], (some 19), none⟩,
   o1 20 (.data .not [.t 19])])
 (.cond (.t 20)
  (.seq (.rg [o1 4 (.lit [.b] [.bool false])])
  .ret)
  .skip))
 (.seq (.seq (.rg [o1 21 (.idx .nil),
   o1 22 (.load 2 [] 3 (.t 21) 1 false),
   o1 23 (.idx .nil),
   o1 24 (.load 3 [] 3 (.t 23) 1 false),
   o1 25 (.data (.bin .neq) [.t 22, .t 24])])
 (.cond (.t 25)
  (.seq (.rg [o1 4 (.lit [.b] [.bool false])])
  .ret)
  .skip))
 (.seq (.rg [o1 4 (.lit [.b] [.bool true])])
 .ret))))))
def s58 : Sig := ⟨[.rd true [.d, .d, .sl (.own none) [.d, .d], .d], .rd true [.d, .d, .sl (.own none) [.d, .d], .d]], (.one false [.d])⟩
noncomputable def E58 : TEnv := envOf [(28, p28)]
noncomputable def f58 (n : Nat) : (Int × Int × List (Int × Int) × Int) × (Int × Int × List (Int × Int) × Int) → Option ((Bool) × (Unit)) := runFn n E58 c58 [[.i .i64, .i .i64, .sl [.i .i64, .i .i64], .i .i64], [.i .i64, .i .i64, .sl [.i .i64, .i .i64], .i .i64]] [.b] [] [4] .no
noncomputable def g58 : (Int × Int × List (Int × Int) × Int) × (Int × Int × List (Int × Int) × Int) → Option ((Bool) × (Unit)) := f58 BIG
noncomputable def p58 : TSp := ⟨s58, [[.i .i64, .i .i64, .sl [.i .i64, .i .i64], .i .i64], [.i .i64, .i .i64, .sl [.i .i64, .i .i64], .i .i64]], [.b], [], Ou.j .no, g58⟩
theorem k58 : chkW PG E58 58 s58 (c58.ht 26) .no = some (c58.wc E58, [4]) := by kernel_rfl
theorem ok58 : p58.Ok PG 58 := mkOk (env_cons ok28 (env_nil PG)) k58 (by kernel_rfl)
theorem e58 (n : Nat) (a0 : Int × Int × List (Int × Int) × Int) (a1 : Int × Int × List (Int × Int) × Int) : f58 n (a0, a1) =
  bif !decide (a0.1 = a1.1) then
   some (false, ())
  else bif !decide (a0.2.1 = a1.2.1) then
   some (false, ())
  else Option.bind (g28 (a0.2.2.1, a1.2.2.1)) fun r0 =>
  bif !r0.1 then
   some (false, ())
  else bif !decide (a0.2.2.2 = a1.2.2.2) then
   some (false, ())
  else some (true, ()) := by kernel_rfl
/- laws.FnExactOrderText -/
def c9 : TC :=
 (.seq (.rg [o1 3 (.a (.t 1)),
   o1 4 (.lit [.b] [.bool false])])
 (.seq (.rg [o1 5 (.lit [.i .i64] [.int .i64 (1048576)])])
 (.seq (.rg [o1 11 (.load 3 [] 0 .nil 4 false),
   o1 12 (.copy 5),
   ⟨false, [], [], .call 1 54 [.t 11, .t 12] .no, [13], (some 13), none⟩,
   o1 5 (.copy 13)])
 (.seq (.seq (.rg [o1 14 (.copy 5),
   o1 15 (.data (.bin .lss) [.t 14, .c (.int .i64 (0))])])
 (.cond (.t 15)
  (.seq (.rg [o1 4 (.lit [.b] [.bool true])])
  .ret)
  .skip))
 (.seq (.rg [o1 17 (.copy 0),
   o1 18 (.load 3 [] 0 .nil 4 false),
   ⟨false, [], [], .call 1 56 [.t 18] .no, [19], (some 19), none⟩,
   ⟨false, [], [], .call 1 55 [.t 17, .t 19] .no, [20], (some 20), none⟩,
   ⟨false, [], [], .det 2 (.copy 20), [16, 20], (some 16), none⟩,
   ⟨false, [], [], .det 2 (.ext 16 0 1), [21, 16], (some 21), none⟩,
   ⟨false, [], [], .det 2 (.ext 16 1 1), [22, 16], (some 22), none⟩,
   o1 6 (.copy 21),
   o1 7 (.copy 22)])
 (.seq (.rg [o1 23 (.load 3 [] 0 .nil 4 false),
   ⟨false, [], [], .call 1 56 [.t 23] .no, [24], (some 24), none⟩,
   ⟨false, [], [], .det 2 (.a (.c [.i .i64, .i .i64, .sl [.i .i64, .i .i64], .i .i64] [.int .i64 (0), .int .i64 (0), .slice none 0 0, .int .i64 (0)])), [8, 1000000001], (some 8), none⟩,
   ⟨false, [], [], .det 2 (.store 8 [] 0 .nil (.t 24)), [8, 24], none, none⟩])
 (.seq (.rg [o1 26 (.copy 0),
   o1 27 (.load 8 [] 0 .nil 4 true),
   ⟨false, [], [], .call 1 57 [.t 26, .t 27] .no, [28], (some 28), none⟩,
   ⟨false, [], [], .det 2 (.copy 28), [25, 28], (some 25), none⟩,
   ⟨false, [], [], .det 2 (.ext 25 0 1), [29, 25], (some 29), none⟩,
   ⟨false, [], [], .det 2 (.ext 25 1 1), [30, 25], (some 30), none⟩,
   o1 9 (.copy 29),
   o1 10 (.copy 30)])
 (.seq (.seq (.join [⟨38, [.b], false⟩] 547608330240 none (.rg [o1 31 (.copy 9),
   o1 32 (.copy 6),
   o1 33 (.data (.bin .neq) [.t 31, .t 32]),
   o1 34 (.copy 33),
   ⟨false, [], [], .det 1 (.copy 10), [35], (some 35), some (3, false)⟩,
   ⟨false, [], [], .det 1 (.copy 7), [36], (some 36), some (3, false)⟩,
   ⟨false, [], [], .det 1 (.data (.beq true) [.t 35, .t 36]), [37], (some 37), some (3, false)⟩,
   ⟨false, [], [], .pick 34 (.c (.bool true)) (.t 37), [38], (some 38), none⟩]))
 (.cond (.t 38)
  (.seq (.rg [o1 4 (.lit [.b] [.bool false])])
  .ret)
  .skip))
 (.seq (.seq (.rg [o1 39 (.load 8 [] 0 .nil 4 true),
   o1 40 (.load 3 [] 0 .nil 4 false),
   ⟨false, [], [], .call 1 56 [.t 40] .no, [41], (some 41), none⟩,
   ⟨false, [], [], .call 1 58 [.t 39, .t 41] .no, [42], (some 42), none⟩,
   o1 43 (.data .not [.t 42])])
 (.cond (.t 43)
  (.seq (.rg [o1 4 (.lit [.b] [.bool false])])
  .ret)
  .skip))
 (.seq (.rg [o1 4 (.lit [.b] [.bool true])])
 .ret))))))))))
def s9 : Sig := ⟨[.rd false [.d], .rd true [.d, .d, .sl (.own none) [.d, .d], .d]], (.one false [.d])⟩
noncomputable def E9 : TEnv := envOf [(54, p54), (56, p56), (55, p55), (57, p57), (58, p58)]
noncomputable def f9 (n : Nat) : Int × (Int × Int × List (Int × Int) × Int) → Option ((Bool) × (Unit)) := runFn n E9 c9 [[.i .i64], [.i .i64, .i .i64, .sl [.i .i64, .i .i64], .i .i64]] [.b] [] [4] .no
noncomputable def g9 : Int × (Int × Int × List (Int × Int) × Int) → Option ((Bool) × (Unit)) := f9 BIG
noncomputable def p9 : TSp := ⟨s9, [[.i .i64], [.i .i64, .i .i64, .sl [.i .i64, .i .i64], .i .i64]], [.b], [], Ou.j .no, g9⟩
theorem k9 : chkW PG E9 9 s9 (c9.ht 44) .no = some (c9.wc E9, [4]) := by kernel_rfl
theorem ok9 : p9.Ok PG 9 := mkOk (env_cons ok54 (env_cons ok56 (env_cons ok55 (env_cons ok57 (env_cons ok58 (env_nil PG)))))) k9 (by kernel_rfl)
theorem e9 (n : Nat) (a0 : Int) (a1 : Int × Int × List (Int × Int) × Int) : f9 n (a0, a1) =
  Option.bind (g54 (a1, (1048576 : Int))) fun r0 =>
  bif decide (r0.1 < (0 : Int)) then
   some (true, ())
  else Option.bind (g56 a1) fun r1 =>
  Option.bind (g55 (a0, r1.1)) fun r2 =>
  Option.bind (g56 a1) fun r3 =>
  Option.bind (g57 (a0, (r3.1.1, r3.1.2.1, r3.1.2.2.1, r3.1.2.2.2))) fun r4 =>
  Option.bind (bif !(r4.1.1.toList == r2.1.1.toList) then
    some true
   else some (!(r4.1.2 == r2.1.2)) : Option (Bool)) fun x5 =>
  bif x5 then
   some (false, ())
  else Option.bind (g56 a1) fun r6 =>
  Option.bind (g58 ((r3.1.1, r3.1.2.1, r3.1.2.2.1, r3.1.2.2.2), r6.1)) fun r7 =>
  bif !r7.1 then
   some (false, ())
  else some (true, ()) := by kernel_rfl
end Go.Fw

namespace Go.Fw

theorem bytesStr_from (l : List Int) : ∀ r : ByteArray, l.foldl (fun r n => r.push (UInt8.ofNat n.toNat)) r = r ++ bytesStr l := by
  induction l with
  | nil => intro r; simp [bytesStr]
  | cons y l ih =>
    intro r
    unfold bytesStr
    rw [List.foldl_cons, List.foldl_cons, ih, ih, ← ByteArray.append_assoc]
    congr 1
    apply ByteArray.ext
    simp [ByteArray.data_push, ByteArray.data_append]
theorem bytesStr_append (l l' : List Int) : bytesStr (l ++ l') = bytesStr l ++ bytesStr l' := by
  unfold bytesStr
  rw [List.foldl_append, bytesStr_from l']
  rfl
theorem bytesStr_size (l : List Int) : (bytesStr l).size = l.length := by
  induction l with
  | nil => rfl
  | cons y l ih =>
    have : y :: l = [y] ++ l := rfl
    rw [this, bytesStr_append, ByteArray.size_append, ih]
    simp [bytesStr, ByteArray.size_push]
    omega

/-- The code of a whole number. -/
theorem varL (v : Int) (h0 : 0 ≤ v) (h1 : v ≤ 1000000000) : ∃ r : List Int × Int, r.1.length ≤ 1000000000 ∧ loopT BIG (fun (self1 : (List (Int)) × Int → Option ((List (Int)) × Int)) (x0 : (List (Int)) × Int) =>
    bif decide ((127 : Int) < x0.2) then
     bif decide ((128 : Int) = 0) then
      none
     else bif decide (x0.1.length + ([IntKind.wrap .u8 (IntKind.wrap .i64 ((Int.tmod x0.2 (128 : Int)) + (128 : Int)))]).length ≤ 4294967296) then
      bif decide ((128 : Int) = 0) then
       none
      else self1 (x0.1 ++ ([IntKind.wrap .u8 (IntKind.wrap .i64 ((Int.tmod x0.2 (128 : Int)) + (128 : Int)))]), IntKind.wrap .i64 (Int.tdiv x0.2 (128 : Int)))
     else none
    else some (x0.1, x0.2)) ([], v) = some r := by
  have := loop_rel (F := fun (self1 : (List (Int)) × Int → Option ((List (Int)) × Int)) (x0 : (List (Int)) × Int) =>
    bif decide ((127 : Int) < x0.2) then
     bif decide ((128 : Int) = 0) then
      none
     else bif decide (x0.1.length + ([IntKind.wrap .u8 (IntKind.wrap .i64 ((Int.tmod x0.2 (128 : Int)) + (128 : Int)))]).length ≤ 4294967296) then
      bif decide ((128 : Int) = 0) then
       none
      else self1 (x0.1 ++ ([IntKind.wrap .u8 (IntKind.wrap .i64 ((Int.tmod x0.2 (128 : Int)) + (128 : Int)))]), IntKind.wrap .i64 (Int.tdiv x0.2 (128 : Int)))
     else none
    else some (x0.1, x0.2)) (fun x => 0 ≤ x.2 ∧ x.2 ≤ 1000000000 ∧ x.1.length + x.2.toNat ≤ 1000000000) (fun x => x.2.toNat) (fun _ b => b.1.length ≤ 1000000000) (fun self x ⟨i0, i1, i2⟩ hs => ?_) (n := BIG) (x := ([], v)) (by simp [BIG]; omega) ⟨h0, h1, by simp; omega⟩
  · obtain ⟨b, hb, hq⟩ := this
    exact ⟨b, hq, hb⟩
  · by_cases h : (127 : Int) < x.2
    · have hd : Int.tdiv x.2 128 = x.2 / 128 := Int.tdiv_eq_ediv_of_nonneg i0
      rw [decide_eq_true h, cond_true, decide_eq_false (by decide), cond_false, decide_eq_true (by simp; omega), cond_true, cond_false, hd, wr (n := x.2 / 128) (by omega) (by omega)]
      exact hs _ ⟨by simp only; omega, by simp only; omega, by simp only [List.length_append, List.length_cons, List.length_nil]; omega⟩ (by simp only; omega)
    · rw [decide_eq_false h, cond_false]
      exact ⟨_, rfl, by simp only; omega⟩

theorem h115 (v : Int) (h0 : 0 ≤ v) (h1 : v ≤ 1000000000) : ∃ b : ByteArray, b.size ≤ 1000000001 ∧ g115 v = some ((b, true), ()) ∧ g111 v = some (b, ()) := by
  obtain ⟨r, hr, hl⟩ := varL v h0 h1
  refine ⟨bytesStr (r.1 ++ [IntKind.wrap .u8 r.2]), by rw [bytesStr_size]; simp; omega, ?_, ?_⟩
  · show f115 BIG _ = _
    rw [e115, h84, Option.bind_some, decide_eq_true h0, decide_eq_true h1, hl]
    simp only [Bool.and_self, Bool.not_true, cond_false, Option.bind_some]
    rw [decide_eq_true (by simp; omega)]; rfl
  · show f111 BIG _ = _
    rw [e111, hl]
    simp only [Option.bind_some]
    rw [decide_eq_true (by simp; omega)]; rfl

theorem h112 (v : Int) : g112 v = some (bytesStr [IntKind.wrap .u8 v], ()) := e112 BIG v

def edT (s : ByteArray) (y : Ed) : ByteArray := s ++ bytesStr [IntKind.wrap .u8 y.1, IntKind.wrap .u8 y.2]
theorem edT_size (s : ByteArray) (y : Ed) : (edT s y).size = s.size + 2 := by
  unfold edT; rw [ByteArray.size_append, bytesStr_size]; rfl
theorem edTs_size : ∀ (l : List Ed) (s : ByteArray), (l.foldl edT s).size = s.size + 2 * l.length
  | [], s => by simp
  | y :: l, s => by rw [List.foldl_cons, edTs_size l, edT_size]; simp; omega

theorem h116 (es : List Ed) (he : es.length ≤ 66) : ∃ b : ByteArray, b.size ≤ 1000000133 ∧ g116 es = some (b, ()) ∧ g113 es = some (b, ()) := by
  have hm : maxLen = 9223372036854775807 := by decide
  obtain ⟨b, hb, h1, h2⟩ := h115 es.length (by omega) (by omega)
  refine ⟨es.foldl edT b, by rw [edTs_size]; omega, ?_, ?_⟩
  · show f116 BIG _ = _
    rw [e116, h1, Option.bind_some, foldLoop es (by omega) (fun i (c : ByteArray) => c.size ≤ 1000000001 + 2 * i) edT id (by simpa using hb) (fun i c y _ (h : c.size ≤ _) => by rw [edT_size]; omega)]
    · rfl
    · intro self c i y hy (hc : c.size ≤ _)
      have hi := (List.getElem?_eq_some_iff.1 hy).1
      simp only [show ((i : Int) < (es.length : Int)) from by omega, decide_true, cond_true]
      rw [bnd_nat hi, hy, Option.bind_some, bytesStr_size, decide_eq_true (by simp; omega), cond_true, wr1 (by omega)]
      rfl
    · intro self c hc
      simp
  · show f113 BIG _ = _
    rw [e113, h2, Option.bind_some, foldLoop es (by omega) (fun i (c : ByteArray) => c.size ≤ 1000000001 + 2 * i) edT id (by simpa using hb) (fun i c y _ (h : c.size ≤ _) => by rw [edT_size]; omega)]
    · rfl
    · intro self c i y hy (hc : c.size ≤ _)
      have hi := (List.getElem?_eq_some_iff.1 hy).1
      simp only [show ((i : Int) < (es.length : Int)) from by omega, decide_true, cond_true]
      simp only [bnd_nat hi, hy, Option.bind_some, h112, bytesStr_size, ByteArray.size_append]
      rw [decide_eq_true (by simp; omega), cond_true, decide_eq_true (by simp; omega), cond_true, wr1 (by omega), ByteArray.append_assoc, ← bytesStr_append]
      rfl
    · intro self c hc
      simp

def inB (a b c : Int) : Bool := decide (b ≤ a) && decide (a ≤ c)
theorem h82' (a b c : Int) : g82 (a, b, c) = some (inB a b c, ()) := h82 a b c
theorem h84' (a b c : Int) : g84 (a, b, c) = some (inB a b c, ()) := h84 a b c
theorem inB_t {a b c : Int} : inB a b c = true ↔ b ≤ a ∧ a ≤ c := by simp [inB]

def edB (n : Int) (e : Ed) : Bool := inB n 1 12 && (inB e.1 0 (n - 1) && (inB e.2 0 (n - 1) && decide (e.1 < e.2)))
theorem h37 (n : Int) (e : Ed) : g37 (n, e) = some (edB n e, ()) := by
  show f37 BIG _ = _
  rw [e37, h84', Option.bind_some]
  unfold edB
  cases h : inB n 1 12 with
  | false => rfl
  | true =>
    have := inB_t.1 h
    rw [wr (by omega) (by omega)]
    simp only [h84', Option.bind_some, cond_true, Bool.true_and]
    cases inB e.1 0 (n - 1) <;> cases inB e.2 0 (n - 1) <;> rfl
theorem h128 (n : Int) (e : Ed) : g128 (n, e) = some (edB n e, ()) := by
  show f128 BIG _ = _
  rw [e128, h82', Option.bind_some]
  unfold edB
  cases h : inB n 1 12 with
  | false => rfl
  | true =>
    have := inB_t.1 h
    rw [wr (by omega) (by omega)]
    simp only [h82', Option.bind_some, cond_true, Bool.true_and]
    cases inB e.1 0 (n - 1) <;> cases inB e.2 0 (n - 1) <;> rfl

def lsB (x y : Ed) : Bool := decide (x.1 < y.1) || (decide (x.1 = y.1) && decide (x.2 < y.2))
theorem h134 (x y : Ed) : g134 (x, y) = some (lsB x y, ()) := by
  show f134 BIG _ = _
  rw [e134]
  unfold lsB
  cases decide (x.1 < y.1) <;> cases decide (x.1 = y.1) <;> rfl
theorem h135 (x y : Ed) : g135 (x, y) = some (lsB x y, ()) := by
  show f135 BIG _ = _
  rw [e135]
  unfold lsB
  cases decide (x.1 < y.1) <;> cases decide (x.1 = y.1) <;> rfl

def eP (n : Int) (es : List Ed) (i : Nat) : Bool := match es[i]? with
  | some y => edB n y && (match i with
    | 0 => true
    | j + 1 => match es[j]? with
      | some x => lsB x y
      | none => false)
  | none => false
theorem eP_0 {n : Int} {es : List Ed} {y : Ed} (h : es[0]? = some y) : eP n es 0 = edB n y := by
  unfold eP; rw [h]; simp
theorem eP_s {n : Int} {es : List Ed} {x y : Ed} {j : Nat} (h : es[j + 1]? = some y) (h' : es[j]? = some x) : eP n es (j + 1) = (edB n y && lsB x y) := by
  unfold eP; rw [h]; simp only [h']
def eOk (n : Int) (es : List Ed) : Bool := if ∀ i, i < es.length → eP n es i = true then decide ((es.length : Int) ≤ 66) else false
theorem eOk_len {n : Int} {es : List Ed} (h : eOk n es = true) : es.length ≤ 66 := by
  unfold eOk at h
  split at h
  · rw [decide_eq_true_eq] at h; omega
  · cases h

theorem h99 (n : Int) (es : List Ed) (hl : es.length ≤ 1048576) : g99 (n, es) = some (eOk n es, ()) := by
  have hm : maxLen = 9223372036854775807 := by decide
  show f99 BIG _ = _
  rw [e99, allLoop es (by omega) (eP n es) false]
  · unfold eOk
    split <;> rfl
  · intro self i y hy
    have hi := (List.getElem?_eq_some_iff.1 hy).1
    simp only [show ((i : Int) < (es.length : Int)) from by omega, decide_true, cond_true]
    rw [bnd_nat hi, hy, Option.bind_some, h37, wr1 (by omega)]
    cases i with
    | zero =>
      rw [eP_0 hy]
      cases edB n y <;> simp
    | succ j =>
      have hj : es[j]? = some (es[j]'(by omega)) := List.getElem?_eq_getElem (by omega)
      rw [eP_s hy hj, show (((j + 1 : Nat) : Int) - 1) = (j : Int) from by omega, wr (n := (j : Int)) (by omega) (by omega)]
      cases hb : edB n y with
      | false => simp
      | true =>
        simp only [Option.bind_some, Bool.not_true, cond_false, show (0 : Int) < ((j + 1 : Nat) : Int) from by omega, decide_true, cond_true, Bool.true_and]
        rw [bnd_nat (by omega), hj]
        simp only [Option.bind_some]
        simp only [Option.bind_some, h134]
        cases lsB _ y <;> rfl
  · intro self
    simp
theorem h101 (n : Int) (es : List Ed) (hl : es.length ≤ 1048576) : g101 (n, es) = some (eOk n es, ()) := by
  have hm : maxLen = 9223372036854775807 := by decide
  show f101 BIG _ = _
  rw [e101, allLoop es (by omega) (eP n es) false]
  · unfold eOk
    split <;> rfl
  · intro self i y hy
    have hi := (List.getElem?_eq_some_iff.1 hy).1
    simp only [show ((i : Int) < (es.length : Int)) from by omega, decide_true, cond_true]
    rw [bnd_nat hi, hy, Option.bind_some, h128, wr1 (by omega)]
    cases i with
    | zero =>
      rw [eP_0 hy]
      cases edB n y <;> simp
    | succ j =>
      have hj : es[j]? = some (es[j]'(by omega)) := List.getElem?_eq_getElem (by omega)
      rw [eP_s hy hj, show (((j + 1 : Nat) : Int) - 1) = (j : Int) from by omega, wr (n := (j : Int)) (by omega) (by omega)]
      cases hb : edB n y with
      | false => simp
      | true =>
        simp only [Option.bind_some, Bool.not_true, cond_false, show (0 : Int) < ((j + 1 : Nat) : Int) from by omega, decide_true, cond_true, Bool.true_and]
        rw [bnd_nat (by omega), hj]
        simp only [Option.bind_some]
        rw [bnd_nat hi, hy]
        simp only [Option.bind_some, h135]
        cases lsB _ y <;> rfl
  · intro self
    simp

abbrev Or' := Int × Int × List (Int × Int) × Int
def ordB (n : Int) (o : Or') : Bool := inB n 1 12 && (inB o.1 1 100000 && (inB o.2.1 1 4 && (eOk n o.2.2.1 && (if o.2.1 = 3 then decide (o.2.2.1.length = 0) && inB o.2.2.2 0 (n - 1) else if o.2.1 = 4 then decide (0 < o.2.2.1.length) && decide (o.2.2.2 = 0) else decide (o.2.2.1.length = 1) && decide (o.2.2.2 = 0)))))

theorem h110 (n : Int) (o : Or') (hl : o.2.2.1.length ≤ 1048576) : g110 (n, o) = some (ordB n o, ()) := by
  show f110 BIG _ = _
  rw [e110]
  simp only [h82', h101 n _ hl, Option.bind_some]
  unfold ordB
  cases h : inB n 1 12 with
  | false => rfl
  | true =>
    have := inB_t.1 h
    rw [wr (by omega) (by omega)]
    cases h1 : inB o.1 1 100000 with
    | false => rfl
    | true =>
      cases h2 : inB o.2.1 1 4 with
      | false => rfl
      | true =>
        cases h3 : eOk n o.2.2.1 with
        | false => rfl
        | true =>
          simp only [Bool.not_true, cond_false, Option.bind_some, Bool.true_and]
          by_cases k3 : o.2.1 = 3
          · rw [if_pos k3, decide_eq_true k3, cond_true]
            by_cases hz : o.2.2.1.length = 0
            · rw [decide_eq_true hz, decide_eq_true (by omega)]; rfl
            · rw [decide_eq_false hz, decide_eq_false (by omega)]; rfl
          · rw [if_neg k3, decide_eq_false k3, cond_false]
            by_cases k4 : o.2.1 = 4
            · rw [if_pos k4, decide_eq_true k4, cond_true]
              by_cases hz : 0 < o.2.2.1.length
              · rw [decide_eq_true hz, decide_eq_true (by omega)]; rfl
              · rw [decide_eq_false hz, decide_eq_false (by omega)]; rfl
            · rw [if_neg k4, decide_eq_false k4, cond_false]
              by_cases hz : o.2.2.1.length = 1
              · rw [decide_eq_true hz, decide_eq_true (by omega)]; rfl
              · rw [decide_eq_false hz, decide_eq_false (by omega)]; rfl

theorem h114 (n : Int) (o : Or') (hl : o.2.2.1.length ≤ 1048576) : g114 (n, o) = some (ordB n o, ()) := by
  show f114 BIG _ = _
  rw [e114]
  simp only [h84', h99 n _ hl, Option.bind_some]
  unfold ordB
  cases h : inB n 1 12 with
  | false => rfl
  | true =>
    have := inB_t.1 h
    rw [wr (by omega) (by omega)]
    cases h1 : inB o.1 1 100000 with
    | false => rfl
    | true =>
      cases h3 : eOk n o.2.2.1 with
      | false => simp
      | true =>
        simp only [Bool.not_true, cond_false, Option.bind_some, Bool.true_and]
        by_cases k3 : o.2.1 = 3
        · have h2 : inB o.2.1 1 4 = true := inB_t.2 (by omega)
          rw [h2, if_pos k3, decide_eq_true k3]
          rw [decide_eq_false (by omega : ¬ o.2.1 = 1), decide_eq_false (by omega : ¬ o.2.1 = 2)]
          by_cases hz : o.2.2.1.length = 0
          · rw [decide_eq_true hz, decide_eq_true (show (o.2.2.1.length : Int) = 0 from by omega)]; by_cases hv : o.2.2.2 = 0 <;> simp [hv]
          · rw [decide_eq_false hz, decide_eq_false (show ¬ (o.2.2.1.length : Int) = 0 from by omega)]; by_cases hv : o.2.2.2 = 0 <;> simp [hv]
        · rw [if_neg k3, decide_eq_false k3]
          by_cases hv : o.2.2.2 = 0
          · simp only [hv, decide_true, Bool.not_true, cond_false, Option.bind_some, Bool.and_true]
            by_cases k4 : o.2.1 = 4
            · have h2 : inB o.2.1 1 4 = true := inB_t.2 (by omega)
              rw [h2, if_pos k4, decide_eq_true k4, decide_eq_false (by omega : ¬ o.2.1 = 1), decide_eq_false (by omega : ¬ o.2.1 = 2)]
              simp
            · rw [if_neg k4, decide_eq_false k4]
              by_cases k1 : o.2.1 = 1
              · have h2 : inB o.2.1 1 4 = true := inB_t.2 (by omega)
                rw [h2, decide_eq_true k1]
                simp
                omega
              · by_cases k2 : o.2.1 = 2
                · have h2 : inB o.2.1 1 4 = true := inB_t.2 (by omega)
                  rw [h2, decide_eq_false k1, decide_eq_true k2]
                  simp
                  omega
                · have h2 : inB o.2.1 1 4 = false := by
                    cases hh : inB o.2.1 1 4 with
                    | false => rfl
                    | true => have := inB_t.1 hh; omega
                  rw [h2, decide_eq_false k1, decide_eq_false k2]
                  rfl
          · simp [hv]

theorem h57 (n : Int) (o : Or') (hl : o.2.2.1.length ≤ 1048576) : ∃ r : ByteArray × Bool, g57 (n, o) = some (r, ()) ∧ g55 (n, o) = some (r, ()) := by
  have e1 : g57 (n, o) = f57 BIG (n, o) := rfl
  have e2 : g55 (n, o) = f55 BIG (n, o) := rfl
  rw [e1, e2, e57, e55, h114 n o hl, h110 n o hl]
  simp only [Option.bind_some]
  cases h : ordB n o with
  | false => exact ⟨_, rfl, rfl⟩
  | true =>
    have h' := h
    unfold ordB at h'
    simp only [Bool.and_eq_true] at h'
    obtain ⟨hn, h1, h2, h3, h4⟩ := h'
    have hn := inB_t.1 hn
    have h1 := inB_t.1 h1
    have hv : 0 ≤ o.2.2.2 ∧ o.2.2.2 ≤ 12 := by
      split at h4
      · simp only [Bool.and_eq_true] at h4
        have := inB_t.1 h4.2; omega
      · split at h4 <;> simp only [Bool.and_eq_true, decide_eq_true_eq] at h4 <;> omega
    obtain ⟨b1, s1, p1, q1⟩ := h115 o.1 (by omega) (by omega)
    obtain ⟨b2, s2, p2, q2⟩ := h115 o.2.2.2 (by omega) (by omega)
    obtain ⟨b3, s3, p3, q3⟩ := h116 o.2.2.1 (eOk_len h3)
    simp only [Bool.not_true, cond_false, p1, p2, p3, q1, q2, q3, h112, Option.bind_some, ByteArray.size_append, bytesStr_size, List.length_cons, List.length_nil]
    rw [decide_eq_true (by omega), decide_eq_true (by omega), decide_eq_true (by omega)]
    exact ⟨_, rfl, rfl⟩

theorem h54 (o : Or') (l : Int) (hl : 0 ≤ l) (hl' : l ≤ 1048576) (ha : o.2.2.1.length ≤ maxLen) : g54 (o, l) = some (if (o.2.2.1.length : Int) ≤ l then l - o.2.2.1.length else -1, ()) := by
  show f54 BIG _ = _
  rw [e54, h25 _ _ hl hl' ha, Option.bind_some]
  split
  · rw [decide_eq_false (by simp; omega)]; rfl
  · rfl
theorem h56 (o : Or') (hl : o.2.2.1.length ≤ 1048576) : g56 o = some (o, ()) := by
  show f56 BIG _ = _
  rw [e56, h27 _ hl]; rfl
theorem h58 (o : Or') (hl : o.2.2.1.length ≤ maxLen) : g58 (o, o) = some (true, ()) := by
  show f58 BIG _ = _
  rw [e58, h28 _ _ hl]
  simp

theorem law9 (n : Int) (o : Or') (h1 : o.2.2.1.length ≤ maxLen) : g9 (n, o) = some (true, ()) := by
  show f9 BIG _ = _
  rw [e9, h54 o _ (by omega) (by omega) h1, Option.bind_some]
  by_cases ho : o.2.2.1.length ≤ 1048576
  · rw [if_pos (by omega), decide_eq_false (by simp; omega), cond_false]
    obtain ⟨r, p, q⟩ := h57 n o ho
    simp only [h56 o ho, p, q, h58 o h1, Option.bind_some]
    simp
  · rw [if_neg (by omega)]; rfl
end Go.Fw
