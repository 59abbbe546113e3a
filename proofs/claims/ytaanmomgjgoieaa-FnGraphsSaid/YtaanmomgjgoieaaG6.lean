/- What the given functions compute, and what that comes to. No conditions. -/
import Derived.Test.YtaanmomgjgoieaaG5
import Derived.Test.YtaanmomgjgoieaaProg
import Derived.Laws.Bits128
set_option linter.unusedVariables false
set_option linter.unusedSimpArgs false
/- The given functions, as what they compute; each is shown to be what the code does. -/
namespace Go.Fw
/- laws.szEdgeSS -/
def c48 : TC :=
 (.seq (.rg [o1 4 (.lit [.i .i64] [.int .i64 (0)])])
 (.seq (.rg [o1 6 (.copy 1),
   o1 7 (.copy 0),
   o1 8 (.len 7),
   o1 9 (.data (.bin .sub) [.t 6, .t 8]),
   o1 1 (.copy 9)])
 (.seq (.seq (.rg [o1 10 (.copy 1),
   o1 11 (.data (.bin .lss) [.t 10, .c (.int .i64 (0))])])
 (.cond (.t 11)
  (.seq (.rg [o1 4 (.lit [.i .i64] [.int .i64 (-1)])])
  .ret)
  .skip))
 (.seq (.join [⟨1, [.i .i64], false⟩] 67104818 (some [⟨4, [.i .i64], false⟩]) (.seq (.rg [o1 5 (.lit [.i .i64] [.int .i64 (0)])])
 (.block 0 (.loop [⟨1, [.i .i64], false⟩, ⟨5, [.i .i64], false⟩] 67104818
  (.seq (.seq (.rg [o1 12 (.copy 5),
    o1 13 (.copy 0),
    o1 14 (.len 13),
    o1 15 (.data (.bin .lss) [.t 12, .t 14])])
  (.cond (.t 15)
   .skip
   (.exit 0)))
  (.seq (.block 1 (.seq (.rg [o1 18 (.copy 0),
    o1 19 (.copy 5),
    o1 20 (.index 18 (.t 19)),
    o1 21 (.load 18 [(0, 1)] 0 (.t 20) 1 false),
    o1 22 (.copy 1),
    ⟨false, [], [], .call 1 25 [.t 21, .t 22] .no, [23], (some 23), none⟩,
    o1 1 (.copy 23)])
  (.seq (.rg [o1 24 (.copy 1),
    o1 25 (.data (.bin .lss) [.t 24, .c (.int .i64 (0))])])
  (.cond (.t 25)
   (.seq (.rg [o1 4 (.lit [.i .i64] [.int .i64 (-1)])])
   .ret)
   .skip))))
  (.rg [o1 16 (.copy 5),
    o1 17 (.data (.bin .add) [.t 16, .c (.int .i64 (1))]),
    o1 5 (.copy 17)])))))))
 (.seq (.rg [o1 26 (.copy 1),
   o1 4 (.copy 26)])
 .ret)))))
def s48 : Sig := ⟨[.rd false [.sl (.own none) [.sl (.own none) [.d, .d]]], .rd false [.d]], (.one false [.d])⟩
noncomputable def E48 : TEnv := envOf [(25, p25)]
noncomputable def f48 (n : Nat) : (List (List (Int × Int))) × Int → Option ((Int) × (Unit)) := runFn n E48 c48 [[.sl [.sl [.i .i64, .i .i64]]], [.i .i64]] [.i .i64] [] [4] .no
noncomputable def g48 : (List (List (Int × Int))) × Int → Option ((Int) × (Unit)) := f48 BIG
noncomputable def p48 : TSp := ⟨s48, [[.sl [.sl [.i .i64, .i .i64]]], [.i .i64]], [.i .i64], [], Ou.j .no, g48⟩
theorem k48 : chkW PG E48 48 s48 (c48.ht 27) .no = some (c48.wc E48, [4]) := by kernel_rfl
theorem ok48 : p48.Ok PG 48 := mkOk (env_cons ok25 (env_nil PG)) k48 (by kernel_rfl)
theorem e48 (n : Nat) (a0 : List ((List (Int × Int)))) (a1 : Int) : f48 n (a0, a1) =
  bif decide ((IntKind.wrap .i64 (a1 - (a0.length : Int))) < (0 : Int)) then
   some ((-1 : Int), ())
  else Option.bind (loopT n (fun (self1 : Int × Int → Option ((Int) ⊕ (Int))) (x0 : Int × Int) =>
    bif decide (x0.2 < (a0.length : Int)) then
     bnd a0.length x0.2 fun n2 =>
     Option.bind a0[n2]? fun y3 =>
     Option.bind (g25 (y3, x0.1)) fun r4 =>
     bif decide (r4.1 < (0 : Int)) then
      some (Sum.inr (-1 : Int))
     else self1 (r4.1, IntKind.wrap .i64 (x0.2 + (1 : Int)))
    else some (Sum.inl x0.1)) (IntKind.wrap .i64 (a1 - (a0.length : Int)), (0 : Int)) : Option ((Int) ⊕ (Int))) fun y => match y with
  | .inl x5 =>
   some (x5, ())
  | .inr x5 =>
   some (x5, ()) := by kernel_rfl
/- laws.toEdgeSS -/
def c50 : TC :=
 (.seq (.rg [o1 2 (.lit [.sl [.sl [.i .i64, .i .i64]]] [.slice none 0 0])])
 (.seq (.rg [o1 5 (.copy 0),
   o1 6 (.len 5),
   o1 7 (.make (.t 6) [.sl [.i .i64, .i .i64]]),
   ⟨false, [], [], .det 2 (.copy 7), [3, 7], (some 3), none⟩])
 (.seq (.join [⟨3, [.sl [.sl [.i .i64, .i .i64]]], false⟩] 4194072 none (.seq (.rg [o1 4 (.lit [.i .i64] [.int .i64 (0)])])
 (.block 0 (.loop [⟨3, [.sl [.sl [.i .i64, .i .i64]]], false⟩, ⟨4, [.i .i64], false⟩] 4194072
  (.seq (.seq (.rg [o1 8 (.copy 4),
    o1 9 (.copy 0),
    o1 10 (.len 9),
    o1 11 (.data (.bin .lss) [.t 8, .t 10])])
  (.cond (.t 11)
   .skip
   (.exit 0)))
  (.seq (.block 1 (.rg [⟨true, [], [], .det 1 (.copy 3), [14], (some 14), none⟩,
    o1 15 (.copy 4),
    o1 16 (.copy 0),
    o1 17 (.copy 4),
    o1 18 (.index 16 (.t 17)),
    o1 19 (.load 16 [(0, 1)] 0 (.t 18) 1 false),
    ⟨false, [], [], .call 1 27 [.t 19] .no, [20], (some 20), none⟩,
    o1 21 (.index 14 (.t 15)),
    ⟨false, [], [], .det 2 (.store 3 [(0, 1)] 0 (.t 21) (.t 20)), [3, 20, 21, 14], none, none⟩]))
  (.rg [o1 12 (.copy 4),
    o1 13 (.data (.bin .add) [.t 12, .c (.int .i64 (1))]),
    o1 4 (.copy 13)])))))))
 (.seq (.rg [⟨false, [], [], .det 2 (.copy 3), [22, 3], (some 22), none⟩,
   ⟨false, [], [], .det 2 (.copy 22), [2, 22], (some 2), none⟩])
 .ret))))
def s50 : Sig := ⟨[.rd false [.sl (.own none) [.sl (.own none) [.d, .d]]]], (.one false [.sl (.own none) [.sl (.own none) [.d, .d]]])⟩
noncomputable def E50 : TEnv := envOf [(27, p27)]
noncomputable def f50 (n : Nat) : (List (List (Int × Int))) → Option ((List (List (Int × Int))) × (Unit)) := runFn n E50 c50 [[.sl [.sl [.i .i64, .i .i64]]]] [.sl [.sl [.i .i64, .i .i64]]] [] [2] .no
noncomputable def g50 : (List (List (Int × Int))) → Option ((List (List (Int × Int))) × (Unit)) := f50 BIG
noncomputable def p50 : TSp := ⟨s50, [[.sl [.sl [.i .i64, .i .i64]]]], [.sl [.sl [.i .i64, .i .i64]]], [], Ou.j .no, g50⟩
theorem k50 : chkW PG E50 50 s50 (c50.ht 23) .no = some (c50.wc E50, [2]) := by kernel_rfl
theorem ok50 : p50.Ok PG 50 := mkOk (env_cons ok27 (env_nil PG)) k50 (by kernel_rfl)
theorem e50 (n : Nat) (a0 : List ((List (Int × Int)))) : f50 n a0 =
  bif decide (0 ≤ (a0.length : Int)) then
   bif decide ((Int.toNat (a0.length : Int)) ≤ 4294967296) then
    Option.bind (loopT n (fun (self1 : (List ((List (Int × Int)))) × Int → Option ((List ((List (Int × Int)))))) (x0 : (List ((List (Int × Int)))) × Int) =>
      bif decide (x0.2 < (a0.length : Int)) then
       bnd a0.length x0.2 fun n2 =>
       Option.bind a0[n2]? fun y3 =>
       Option.bind (g27 y3) fun r4 =>
       bnd x0.1.length x0.2 fun n5 =>
       Option.bind x0.1[n5]? fun y6 =>
       self1 (x0.1.set n5 r4.1, IntKind.wrap .i64 (x0.2 + (1 : Int)))
      else some x0.1) (List.replicate (Int.toNat (a0.length : Int)) [], (0 : Int)) : Option ((List ((List (Int × Int)))))) fun x7 =>
    some (x7, ())
   else none
  else none := by kernel_rfl
/- spec.l05Has -/
def c108 : TC :=
 (.seq (.rg [o1 3 (.a (.t 1)),
   o1 4 (.lit [.b] [.bool false])])
 (.seq (.join [] 262128 (some [⟨4, [.b], false⟩]) (.seq (.rg [o1 5 (.lit [.i .i64] [.int .i64 (0)])])
 (.block 0 (.loop [⟨5, [.i .i64], false⟩] 262128
  (.seq (.seq (.rg [o1 6 (.copy 5),
    o1 7 (.copy 0),
    o1 8 (.len 7),
    o1 9 (.data (.bin .lss) [.t 6, .t 8])])
  (.cond (.t 9)
   .skip
   (.exit 0)))
  (.seq (.block 1 (.seq (.rg [o1 12 (.copy 0),
    o1 13 (.copy 5),
    o1 14 (.index 12 (.t 13)),
    o1 15 (.load 12 [(0, 2)] 0 (.t 14) 2 false),
    o1 16 (.load 3 [] 0 .nil 2 false),
    o1 17 (.eqA [.i, .i] (.t 15) (.t 16) false)])
  (.cond (.t 17)
   (.seq (.rg [o1 4 (.lit [.b] [.bool true])])
   .ret)
   .skip)))
  (.rg [o1 10 (.copy 5),
    o1 11 (.data (.bin .add) [.t 10, .c (.int .i64 (1))]),
    o1 5 (.copy 11)])))))))
 (.seq (.rg [o1 4 (.lit [.b] [.bool false])])
 .ret)))
def s108 : Sig := ⟨[.rd false [.sl (.own none) [.d, .d]], .rd true [.d, .d]], (.one false [.d])⟩
noncomputable def E108 : TEnv := envOf []
noncomputable def f108 (n : Nat) : (List (Int × Int)) × (Int × Int) → Option ((Bool) × (Unit)) := runFn n E108 c108 [[.sl [.i .i64, .i .i64]], [.i .i64, .i .i64]] [.b] [] [4] .no
noncomputable def g108 : (List (Int × Int)) × (Int × Int) → Option ((Bool) × (Unit)) := f108 BIG
noncomputable def p108 : TSp := ⟨s108, [[.sl [.i .i64, .i .i64]], [.i .i64, .i .i64]], [.b], [], Ou.j .no, g108⟩
theorem k108 : chkW PG E108 108 s108 (c108.ht 18) .no = some (c108.wc E108, [4]) := by kernel_rfl
theorem ok108 : p108.Ok PG 108 := mkOk (env_nil PG) k108 (by kernel_rfl)
theorem e108 (n : Nat) (a0 : List (Int × Int)) (a1 : Int × Int) : f108 n (a0, a1) =
  Option.bind (loopT n (fun (self1 : Int → Option ((Unit) ⊕ (Bool))) (x0 : Int) =>
    bif decide (x0 < (a0.length : Int)) then
     bnd a0.length x0 fun n2 =>
     Option.bind a0[n2]? fun y3 =>
     bif (decide (y3.1 = a1.1) && (decide (y3.2 = a1.2) && true)) then
      some (Sum.inr true)
     else self1 (IntKind.wrap .i64 (x0 + (1 : Int)))
    else some (Sum.inl ())) (0 : Int) : Option ((Unit) ⊕ (Bool))) fun y => match y with
  | .inl x4 =>
   some (false, ())
  | .inr x4 =>
   some (x4, ()) := by kernel_rfl
/- spec.l05Put -/
def c109 : TC :=
 (.seq (.rg [o1 3 (.a (.t 1)),
   o1 4 (.lit [.sl [.i .i64, .i .i64]] [.slice none 0 0])])
 (.seq (.rg [o1 8 (.sli [.i .i64, .i .i64] []),
   ⟨false, [], [], .det 2 (.copy 8), [5, 8], (some 5), none⟩])
 (.seq (.join [⟨5, [.sl [.i .i64, .i .i64]], false⟩] 268435040 none (.seq (.rg [o1 6 (.lit [.i .i64] [.int .i64 (0)])])
 (.block 0 (.loop [⟨5, [.sl [.i .i64, .i .i64]], false⟩, ⟨6, [.i .i64], false⟩] 268435040
  (.seq (.seq (.rg [o1 9 (.copy 6),
    o1 10 (.copy 0),
    o1 11 (.len 10),
    o1 12 (.data (.bin .lss) [.t 9, .t 11])])
  (.cond (.t 12)
   .skip
   (.exit 0)))
  (.seq (.join [⟨5, [.sl [.i .i64, .i .i64]], false⟩] 268402720 none (.block 1 (.seq (.rg [o1 15 (.copy 0),
    o1 16 (.copy 6),
    o1 17 (.index 15 (.t 16)),
    o1 18 (.load 15 [(0, 2)] 0 (.t 17) 2 false),
    o1 19 (.load 3 [] 0 .nil 2 false),
    ⟨false, [], [], .call 1 135 [.t 18, .t 19] .no, [20], (some 20), none⟩])
  (.cond (.t 20)
   (.rg [⟨false, [], [], .det 2 (.copy 5), [21, 5], (some 21), none⟩,
     o1 22 (.copy 0),
     o1 23 (.copy 6),
     o1 24 (.index 22 (.t 23)),
     o1 25 (.load 22 [(0, 2)] 0 (.t 24) 2 false),
     o1 26 (.sli [.i .i64, .i .i64] [.t 25]),
     ⟨false, [], [], .det 2 (.app (some 21) 26), [27, 21], (some 27), none⟩,
     ⟨false, [], [], .det 2 (.copy 27), [5, 27], (some 5), none⟩])
   .skip))))
  (.rg [o1 13 (.copy 6),
    o1 14 (.data (.bin .add) [.t 13, .c (.int .i64 (1))]),
    o1 6 (.copy 14)])))))))
 (.seq (.rg [⟨false, [], [], .det 2 (.copy 5), [28, 5], (some 28), none⟩,
   o1 29 (.load 3 [] 0 .nil 2 false),
   o1 30 (.sli [.i .i64, .i .i64] [.t 29]),
   ⟨false, [], [], .det 2 (.app (some 28) 30), [31, 28], (some 31), none⟩,
   ⟨false, [], [], .det 2 (.copy 31), [5, 31], (some 5), none⟩])
 (.seq (.join [⟨5, [.sl [.i .i64, .i .i64]], false⟩] 2251795518718112 none (.seq (.rg [o1 7 (.lit [.i .i64] [.int .i64 (0)])])
 (.block 2 (.loop [⟨5, [.sl [.i .i64, .i .i64]], false⟩, ⟨7, [.i .i64], false⟩] 2251795518718112
  (.seq (.seq (.rg [o1 32 (.copy 7),
    o1 33 (.copy 0),
    o1 34 (.len 33),
    o1 35 (.data (.bin .lss) [.t 32, .t 34])])
  (.cond (.t 35)
   .skip
   (.exit 2)))
  (.seq (.join [⟨5, [.sl [.i .i64, .i .i64]], false⟩] 2251524935778336 none (.block 3 (.seq (.rg [o1 38 (.load 3 [] 0 .nil 2 false),
    o1 39 (.copy 0),
    o1 40 (.copy 7),
    o1 41 (.index 39 (.t 40)),
    o1 42 (.load 39 [(0, 2)] 0 (.t 41) 2 false),
    ⟨false, [], [], .call 1 135 [.t 38, .t 42] .no, [43], (some 43), none⟩])
  (.cond (.t 43)
   (.rg [⟨false, [], [], .det 2 (.copy 5), [44, 5], (some 44), none⟩,
     o1 45 (.copy 0),
     o1 46 (.copy 7),
     o1 47 (.index 45 (.t 46)),
     o1 48 (.load 45 [(0, 2)] 0 (.t 47) 2 false),
     o1 49 (.sli [.i .i64, .i .i64] [.t 48]),
     ⟨false, [], [], .det 2 (.app (some 44) 49), [50, 44], (some 50), none⟩,
     ⟨false, [], [], .det 2 (.copy 50), [5, 50], (some 5), none⟩])
   .skip))))
  (.rg [o1 36 (.copy 7),
    o1 37 (.data (.bin .add) [.t 36, .c (.int .i64 (1))]),
    o1 7 (.copy 37)])))))))
 (.seq (.rg [⟨false, [], [], .det 2 (.copy 5), [51, 5], (some 51), none⟩,
   ⟨false, [], [], .det 2 (.copy 51), [4, 51], (some 4), none⟩])
 .ret))))))
def s109 : Sig := ⟨[.rd false [.sl (.own none) [.d, .d]], .rd true [.d, .d]], (.one false [.sl (.own none) [.d, .d]])⟩
noncomputable def E109 : TEnv := envOf [(135, p135)]
noncomputable def f109 (n : Nat) : (List (Int × Int)) × (Int × Int) → Option ((List (Int × Int)) × (Unit)) := runFn n E109 c109 [[.sl [.i .i64, .i .i64]], [.i .i64, .i .i64]] [.sl [.i .i64, .i .i64]] [] [4] .no
noncomputable def g109 : (List (Int × Int)) × (Int × Int) → Option ((List (Int × Int)) × (Unit)) := f109 BIG
noncomputable def p109 : TSp := ⟨s109, [[.sl [.i .i64, .i .i64]], [.i .i64, .i .i64]], [.sl [.i .i64, .i .i64]], [], Ou.j .no, g109⟩
theorem k109 : chkW PG E109 109 s109 (c109.ht 52) .no = some (c109.wc E109, [4]) := by kernel_rfl
theorem ok109 : p109.Ok PG 109 := mkOk (env_cons ok135 (env_nil PG)) k109 (by kernel_rfl)
theorem e109 (n : Nat) (a0 : List (Int × Int)) (a1 : Int × Int) : f109 n (a0, a1) =
  Option.bind (loopT n (fun (self1 : (List (Int × Int)) × Int → Option ((List (Int × Int)))) (x0 : (List (Int × Int)) × Int) =>
    bif decide (x0.2 < (a0.length : Int)) then
     Option.bind (bnd a0.length x0.2 fun n2 =>
      Option.bind a0[n2]? fun y3 =>
      Option.bind (g135 (y3, a1)) fun r4 =>
      bif r4.1 then
       bnd a0.length x0.2 fun n5 =>
       Option.bind a0[n5]? fun y6 =>
       bif decide (x0.1.length + [y6].length ≤ 4294967296) then
        some (x0.1 ++ [y6])
       else none
      else some x0.1 : Option ((List (Int × Int)))) fun x7 =>
     self1 (x7, IntKind.wrap .i64 (x0.2 + (1 : Int)))
    else some x0.1) ([], (0 : Int)) : Option ((List (Int × Int)))) fun x8 =>
  bif decide (x8.length + [a1].length ≤ 4294967296) then
   Option.bind (loopT n (fun (self10 : (List (Int × Int)) × Int → Option ((List (Int × Int)))) (x9 : (List (Int × Int)) × Int) =>
     bif decide (x9.2 < (a0.length : Int)) then
      Option.bind (bnd a0.length x9.2 fun n11 =>
       Option.bind a0[n11]? fun y12 =>
       Option.bind (g135 (a1, y12)) fun r13 =>
       bif r13.1 then
        bnd a0.length x9.2 fun n14 =>
        Option.bind a0[n14]? fun y15 =>
        bif decide (x9.1.length + [y15].length ≤ 4294967296) then
         some (x9.1 ++ [y15])
        else none
       else some x9.1 : Option ((List (Int × Int)))) fun x16 =>
      self10 (x16, IntKind.wrap .i64 (x9.2 + (1 : Int)))
     else some x9.1) (x8 ++ [a1], (0 : Int)) : Option ((List (Int × Int)))) fun x17 =>
   some (x17, ())
  else none := by kernel_rfl
/- spec.WholeEdges -/
def c49 : TC :=
 (.seq (.rg [o1 4 (.lit [.sl [.i .i64, .i .i64]] [.slice none 0 0]),
   o1 5 (.lit [.b] [.bool false])])
 (.seq (.rg [o1 10 (.sli [.i .i64, .i .i64] []),
   ⟨false, [], [], .det 2 (.copy 10), [6, 10], (some 6), none⟩])
 (.seq (.rg [o1 11 (.sli [.i .i64, .i .i64] []),
   o1 12 (.copy 1),
   ⟨false, [], [], .det 2 (.app (some 11) 12), [13, 11], (some 13), none⟩,
   ⟨false, [], [], .det 2 (.copy 13), [7, 13], (some 7), none⟩])
 (.seq (.join [⟨7, [.sl [.i .i64, .i .i64]], false⟩] 67092864 none (.seq (.rg [o1 8 (.lit [.i .i64] [.int .i64 (0)])])
 (.block 0 (.loop [⟨7, [.sl [.i .i64, .i .i64]], false⟩, ⟨8, [.i .i64], false⟩] 67092864
  (.seq (.seq (.rg [o1 14 (.copy 8),
    o1 15 (.copy 0),
    o1 16 (.len 15),
    o1 17 (.data (.bin .lss) [.t 14, .t 16])])
  (.cond (.t 17)
   .skip
   (.exit 0)))
  (.seq (.block 1 (.rg [⟨false, [], [], .det 2 (.copy 7), [20, 7], (some 20), none⟩,
    o1 21 (.copy 0),
    o1 22 (.copy 8),
    o1 23 (.index 21 (.t 22)),
    o1 24 (.load 21 [(0, 1)] 0 (.t 23) 1 false),
    ⟨false, [], [], .det 2 (.app (some 20) 24), [25, 20], (some 25), none⟩,
    ⟨false, [], [], .det 2 (.copy 25), [7, 25], (some 7), none⟩]))
  (.rg [o1 18 (.copy 8),
    o1 19 (.data (.bin .add) [.t 18, .c (.int .i64 (1))]),
    o1 8 (.copy 19)])))))))
 (.seq (.join [⟨6, [.sl [.i .i64, .i .i64]], false⟩] 35184304980592 (some [⟨4, [.sl [.i .i64, .i .i64]], false⟩, ⟨5, [.b], false⟩]) (.seq (.rg [o1 9 (.lit [.i .i64] [.int .i64 (0)])])
 (.block 2 (.loop [⟨6, [.sl [.i .i64, .i .i64]], false⟩, ⟨9, [.i .i64], false⟩] 35184304980592
  (.seq (.seq (.rg [o1 26 (.copy 9),
    ⟨true, [], [], .det 1 (.copy 7), [27], (some 27), none⟩,
    o1 28 (.len 27),
    o1 29 (.data (.bin .lss) [.t 26, .t 28])])
  (.cond (.t 29)
   .skip
   (.exit 2)))
  (.seq (.block 3 (.seq (.seq (.rg [⟨true, [], [], .det 1 (.copy 6), [32], (some 32), none⟩,
    ⟨true, [], [], .det 1 (.copy 7), [33], (some 33), none⟩,
    o1 34 (.copy 9),
    o1 35 (.index 33 (.t 34)),
    o1 36 (.load 7 [(0, 2)] 0 (.t 35) 2 false),
    ⟨false, [], [], .call 1 108 [.t 32, .t 36] .no, [37], (some 37), none⟩])
  (.cond (.t 37)
   (.seq (.rg [o1 38 (.sli [.i .i64, .i .i64] []),
     ⟨false, [], [], .det 2 (.copy 38), [4, 38], (some 4), none⟩,
     o1 5 (.lit [.b] [.bool false])])
   .ret)
   .skip))
  (.rg [⟨false, [], [], .det 2 (.copy 6), [39, 6, 32], (some 39), none⟩,
    ⟨true, [], [], .det 1 (.copy 7), [40], (some 40), none⟩,
    o1 41 (.copy 9),
    o1 42 (.index 40 (.t 41)),
    o1 43 (.load 7 [(0, 2)] 0 (.t 42) 2 false),
    ⟨false, [], [], .call 1 109 [.t 39, .t 43] .no, [44], (some 44), none⟩,
    ⟨false, [], [], .det 2 (.copy 44), [6, 44, 32], (some 6), none⟩])))
  (.rg [o1 30 (.copy 9),
    o1 31 (.data (.bin .add) [.t 30, .c (.int .i64 (1))]),
    o1 9 (.copy 31)])))))))
 (.seq (.rg [⟨false, [], [], .det 2 (.copy 6), [45, 6], (some 45), none⟩,
   ⟨false, [], [], .det 2 (.copy 45), [4, 45], (some 4), none⟩,
   o1 5 (.lit [.b] [.bool true])])
 .ret))))))
def s49 : Sig := ⟨[.rd false [.sl (.own none) [.sl (.own none) [.d, .d]]], .rd false [.sl (.own none) [.d, .d]]], (.tup [(false, 1), (false, 1)] [.sl (.own none) [.d, .d], .d])⟩
noncomputable def E49 : TEnv := envOf [(108, p108), (109, p109)]
noncomputable def f49 (n : Nat) : (List (List (Int × Int))) × (List (Int × Int)) → Option ((List (Int × Int) × Bool) × (Unit)) := runFn n E49 c49 [[.sl [.sl [.i .i64, .i .i64]]], [.sl [.i .i64, .i .i64]]] [.sl [.i .i64, .i .i64], .b] [] [4, 5] .no
noncomputable def g49 : (List (List (Int × Int))) × (List (Int × Int)) → Option ((List (Int × Int) × Bool) × (Unit)) := f49 BIG
noncomputable def p49 : TSp := ⟨s49, [[.sl [.sl [.i .i64, .i .i64]]], [.sl [.i .i64, .i .i64]]], [.sl [.i .i64, .i .i64], .b], [], Ou.j .no, g49⟩
theorem k49 : chkW PG E49 49 s49 (c49.ht 46) .no = some (c49.wc E49, [4, 5]) := by kernel_rfl
theorem ok49 : p49.Ok PG 49 := mkOk (env_cons ok108 (env_cons ok109 (env_nil PG))) k49 (by kernel_rfl)
theorem e49 (n : Nat) (a0 : List ((List (Int × Int)))) (a1 : List (Int × Int)) : f49 n (a0, a1) =
  bif decide (0 + a1.length ≤ 4294967296) then
   Option.bind (loopT n (fun (self1 : (List (Int × Int)) × Int → Option ((List (Int × Int)))) (x0 : (List (Int × Int)) × Int) =>
     bif decide (x0.2 < (a0.length : Int)) then
      bnd a0.length x0.2 fun n2 =>
      Option.bind a0[n2]? fun y3 =>
      bif decide (x0.1.length + y3.length ≤ 4294967296) then
       self1 (x0.1 ++ y3, IntKind.wrap .i64 (x0.2 + (1 : Int)))
      else none
     else some x0.1) ([] ++ a1, (0 : Int)) : Option ((List (Int × Int)))) fun x4 =>
   Option.bind (loopT n (fun (self6 : (List (Int × Int)) × Int → Option (((List (Int × Int))) ⊕ ((List (Int × Int)) × Bool))) (x5 : (List (Int × Int)) × Int) =>
     bif decide (x5.2 < (x4.length : Int)) then
      bnd x4.length x5.2 fun n7 =>
      Option.bind x4[n7]? fun y8 =>
      Option.bind (g108 (x5.1, y8)) fun r9 =>
      bif r9.1 then
       some (Sum.inr ([], false))
      else bnd x4.length x5.2 fun n10 =>
      Option.bind x4[n10]? fun y11 =>
      Option.bind (g109 (x5.1, y11)) fun r12 =>
      self6 (r12.1, IntKind.wrap .i64 (x5.2 + (1 : Int)))
     else some (Sum.inl x5.1)) ([], (0 : Int)) : Option (((List (Int × Int))) ⊕ ((List (Int × Int)) × Bool))) fun y => match y with
   | .inl x13 =>
    some ((x13, true), ())
   | .inr x13 =>
    some ((x13.1, x13.2), ())
  else none := by kernel_rfl
/- impl.hasEdge -/
def c98 : TC :=
 (.seq (.rg [o1 3 (.a (.t 1)),
   o1 4 (.lit [.b] [.bool false])])
 (.seq (.join [] 131024 (some [⟨4, [.b], false⟩]) (.seq (.rg [o1 7 (.copy 0),
   o1 8 (.len 7),
   o1 9 (.lit [.i .i64] [.int .i64 (0)])])
 (.block 0 (.loop [⟨9, [.i .i64], false⟩] 130640
  (.seq (.rg [o1 10 (.data (.bin .lss) [.t 9, .t 8])])
  (.seq (.cond (.t 10)
   .skip
   (.exit 0))
  (.seq (.block 1 (.seq (.rg [o1 11 (.index 7 (.t 9)),
    o1 12 (.load 7 [(0, 2)] 0 (.t 11) 2 false),
    ⟨false, [], [], .det 2 (.a (.c [.i .i64, .i .i64] [.int .i64 (0), .int .i64 (0)])), [6, 1000000001], (some 6), none⟩,
    ⟨false, [], [], .det 1 (.store 6 [] 0 .nil (.t 12)), [6], none, none⟩])
  (.seq (.rg [o1 13 (.load 6 [] 0 .nil 2 false),
    o1 14 (.load 3 [] 0 .nil 2 false),
    o1 15 (.eqA [.i, .i] (.t 13) (.t 14) false)])
  (.cond (.t 15)
   (.seq (.rg [o1 4 (.lit [.b] [.bool true])])
   .ret)
   .skip))))
  (.rg [o1 16 (.data (.bin .add) [.t 9, .c (.int .i64 (1))]),
    o1 9 (.copy 16)]))))))))
 (.seq (.rg [o1 4 (.lit [.b] [.bool false])])
 .ret)))
def s98 : Sig := ⟨[.rd false [.sl (.own none) [.d, .d]], .rd true [.d, .d]], (.one false [.d])⟩
noncomputable def E98 : TEnv := envOf []
noncomputable def f98 (n : Nat) : (List (Int × Int)) × (Int × Int) → Option ((Bool) × (Unit)) := runFn n E98 c98 [[.sl [.i .i64, .i .i64]], [.i .i64, .i .i64]] [.b] [] [4] .no
noncomputable def g98 : (List (Int × Int)) × (Int × Int) → Option ((Bool) × (Unit)) := f98 BIG
noncomputable def p98 : TSp := ⟨s98, [[.sl [.i .i64, .i .i64]], [.i .i64, .i .i64]], [.b], [], Ou.j .no, g98⟩
theorem k98 : chkW PG E98 98 s98 (c98.ht 17) .no = some (c98.wc E98, [4]) := by kernel_rfl
theorem ok98 : p98.Ok PG 98 := mkOk (env_nil PG) k98 (by kernel_rfl)
theorem e98 (n : Nat) (a0 : List (Int × Int)) (a1 : Int × Int) : f98 n (a0, a1) =
  Option.bind (loopT n (fun (self1 : Int → Option ((Unit) ⊕ (Bool))) (x0 : Int) =>
    bif decide (x0 < (a0.length : Int)) then
     bnd a0.length x0 fun n2 =>
     Option.bind a0[n2]? fun y3 =>
     bif (decide (y3.1 = a1.1) && (decide (y3.2 = a1.2) && true)) then
      some (Sum.inr true)
     else self1 (IntKind.wrap .i64 (x0 + (1 : Int)))
    else some (Sum.inl ())) (0 : Int) : Option ((Unit) ⊕ (Bool))) fun y => match y with
  | .inl x4 =>
   some (false, ())
  | .inr x4 =>
   some (x4, ()) := by kernel_rfl
/- impl.withEdge -/
def c97 : TC :=
 (.seq (.rg [o1 3 (.a (.t 1)),
   o1 4 (.lit [.sl [.i .i64, .i .i64]] [.slice none 0 0])])
 (.seq (.rg [o1 5 (.lit [.i .i64] [.int .i64 (0)])])
 (.seq (.join [⟨5, [.i .i64], false⟩] 1048544 none (.block 0 (.loop [⟨5, [.i .i64], false⟩] 1048544
  (.seq (.seq (.join [⟨17, [.b], false⟩] 262080 none (.rg [o1 6 (.copy 5),
    o1 7 (.copy 0),
    o1 8 (.len 7),
    o1 9 (.data (.bin .lss) [.t 6, .t 8]),
    o1 10 (.copy 9),
    ⟨false, [], [], .det 1 (.copy 0), [11], (some 11), some (4, true)⟩,
    ⟨false, [], [], .det 1 (.copy 5), [12], (some 12), some (4, true)⟩,
    ⟨false, [], [], .det 1 (.index 11 (.t 12)), [13], (some 13), some (4, true)⟩,
    ⟨false, [], [], .det 1 (.load 11 [(0, 2)] 0 (.t 13) 2 false), [14], (some 14), some (4, true)⟩,
    ⟨false, [], [], .det 1 (.load 3 [] 0 .nil 2 false), [15], (some 15), some (4, true)⟩,
    ⟨false, [], [], .call 1 134 [.t 14, .t 15] .no, [16], (some 16), some (4, true)⟩,
    ⟨false, [], [], .pick 10 (.t 16) (.c (.bool false)), [17], (some 17), none⟩]))
  (.cond (.t 17)
   .skip
   (.exit 0)))
  (.block 1 (.rg [o1 18 (.copy 5),
    o1 19 (.data (.bin .add) [.t 18, .c (.int .i64 (1))]),
    o1 5 (.copy 19)]))))))
 (.seq (.rg [o1 20 (.copy 0),
   o1 21 (.copy 5),
   o1 22 (.res 20 none (some (.t 21))),
   o1 23 (.app none 22),
   o1 24 (.load 3 [] 0 .nil 2 false),
   o1 25 (.sli [.i .i64, .i .i64] [.t 24]),
   ⟨false, [], [], .det 2 (.app (some 23) 25), [26, 23], (some 26), none⟩,
   o1 27 (.copy 0),
   o1 28 (.copy 5),
   o1 29 (.res 27 (some (.t 28)) none),
   ⟨false, [], [], .det 2 (.app (some 26) 29), [30, 26], (some 30), none⟩,
   ⟨false, [], [], .det 2 (.copy 30), [4, 30], (some 4), none⟩])
 .ret))))
def s97 : Sig := ⟨[.rd false [.sl (.own none) [.d, .d]], .rd true [.d, .d]], (.one false [.sl (.own none) [.d, .d]])⟩
noncomputable def E97 : TEnv := envOf [(134, p134)]
noncomputable def f97 (n : Nat) : (List (Int × Int)) × (Int × Int) → Option ((List (Int × Int)) × (Unit)) := runFn n E97 c97 [[.sl [.i .i64, .i .i64]], [.i .i64, .i .i64]] [.sl [.i .i64, .i .i64]] [] [4] .no
noncomputable def g97 : (List (Int × Int)) × (Int × Int) → Option ((List (Int × Int)) × (Unit)) := f97 BIG
noncomputable def p97 : TSp := ⟨s97, [[.sl [.i .i64, .i .i64]], [.i .i64, .i .i64]], [.sl [.i .i64, .i .i64]], [], Ou.j .no, g97⟩
theorem k97 : chkW PG E97 97 s97 (c97.ht 31) .no = some (c97.wc E97, [4]) := by kernel_rfl
theorem ok97 : p97.Ok PG 97 := mkOk (env_cons ok134 (env_nil PG)) k97 (by kernel_rfl)
theorem e97 (n : Nat) (a0 : List (Int × Int)) (a1 : Int × Int) : f97 n (a0, a1) =
  Option.bind (loopT n (fun (self1 : Int → Option (Int)) (x0 : Int) =>
    Option.bind (bif decide (x0 < (a0.length : Int)) then
      bnd a0.length x0 fun n2 =>
      Option.bind a0[n2]? fun y3 =>
      Option.bind (g134 (y3, a1)) fun r4 =>
      some r4.1
     else some false : Option (Bool)) fun x5 =>
    bif x5 then
     self1 (IntKind.wrap .i64 (x0 + (1 : Int)))
    else some x0) (0 : Int) : Option (Int)) fun x6 =>
  bif decide (0 ≤ x6) then
   bif decide (0 ≤ (Int.toNat x6) ∧ (Int.toNat x6) ≤ a0.length) then
    bif decide ((List.take ((Int.toNat x6) - 0) (List.drop 0 a0)).length ≤ 4294967296) then
     bif decide ((List.take ((Int.toNat x6) - 0) (List.drop 0 a0)).length + [a1].length ≤ 4294967296) then
      bif decide (0 ≤ x6) then
       bif decide ((Int.toNat x6) ≤ a0.length ∧ a0.length ≤ a0.length) then
        bif decide (((List.take ((Int.toNat x6) - 0) (List.drop 0 a0)) ++ [a1]).length + (List.take (a0.length - (Int.toNat x6)) (List.drop (Int.toNat x6) a0)).length ≤ 4294967296) then
         some (((List.take ((Int.toNat x6) - 0) (List.drop 0 a0)) ++ [a1]) ++ (List.take (a0.length - (Int.toNat x6)) (List.drop (Int.toNat x6) a0)), ())
        else none
       else none
      else none
     else none
    else none
   else none
  else none := by kernel_rfl
/- impl.WholeEdges -/
def c51 : TC :=
 (.seq (.rg [o1 4 (.lit [.sl [.i .i64, .i .i64]] [.slice none 0 0]),
   o1 5 (.lit [.b] [.bool false])])
 (.seq (.rg [o1 6 (.lit [.sl [.i .i64, .i .i64]] [.slice none 0 0])])
 (.seq (.join [⟨6, [.sl [.i .i64, .i .i64]], false⟩] 34359737712 (some [⟨4, [.sl [.i .i64, .i .i64]], false⟩, ⟨5, [.b], false⟩]) (.seq (.rg [o1 11 (.copy 0),
   o1 12 (.app none 11),
   o1 13 (.copy 1),
   o1 14 (.sli [.sl [.i .i64, .i .i64]] [.t 13]),
   ⟨false, [], [], .det 2 (.app (some 12) 14), [15, 12], (some 15), none⟩,
   o1 16 (.len 15),
   o1 17 (.lit [.i .i64] [.int .i64 (0)])])
 (.block 0 (.loop [⟨6, [.sl [.i .i64, .i .i64]], false⟩, ⟨17, [.i .i64], false⟩] 34359608688
  (.seq (.rg [o1 18 (.data (.bin .lss) [.t 17, .t 16])])
  (.seq (.cond (.t 18)
   .skip
   (.exit 0))
  (.seq (.join [⟨6, [.sl [.i .i64, .i .i64]], false⟩] 17179346288 (some [⟨4, [.sl [.i .i64, .i .i64]], false⟩, ⟨5, [.b], false⟩]) (.block 1 (.seq (.rg [o1 19 (.index 15 (.t 17)),
    o1 20 (.load 15 [(0, 1)] 0 (.t 19) 1 false),
    o1 8 (.copy 20)])
  (.seq (.rg [o1 21 (.copy 8),
    o1 22 (.len 21),
    o1 23 (.lit [.i .i64] [.int .i64 (0)])])
  (.block 2 (.loop [⟨6, [.sl [.i .i64, .i .i64]], false⟩, ⟨23, [.i .i64], false⟩] 17171481712
   (.seq (.rg [o1 24 (.data (.bin .lss) [.t 23, .t 22])])
   (.seq (.cond (.t 24)
    .skip
    (.exit 2))
   (.seq (.block 3 (.seq (.rg [o1 25 (.index 21 (.t 23)),
     o1 26 (.load 21 [(0, 2)] 0 (.t 25) 2 false),
     ⟨false, [], [], .det 2 (.a (.c [.i .i64, .i .i64] [.int .i64 (0), .int .i64 (0)])), [10, 1000000001], (some 10), none⟩,
     ⟨false, [], [], .det 1 (.store 10 [] 0 .nil (.t 26)), [10], none, none⟩])
   (.seq (.seq (.rg [⟨true, [], [], .det 1 (.copy 6), [27], (some 27), none⟩,
     o1 28 (.load 10 [] 0 .nil 2 false),
     ⟨false, [], [], .call 1 98 [.t 27, .t 28] .no, [29], (some 29), none⟩])
   (.cond (.t 29)
    (.seq (.rg [o1 4 (.lit [.sl [.i .i64, .i .i64]] [.slice none 0 0]),
      o1 5 (.lit [.b] [.bool false])])
    .ret)
    .skip))
   (.rg [⟨false, [], [], .det 2 (.copy 6), [30, 6, 27], (some 30), none⟩,
     o1 31 (.load 10 [] 0 .nil 2 false),
     ⟨false, [], [], .call 1 97 [.t 30, .t 31] .no, [32], (some 32), none⟩,
     ⟨false, [], [], .det 2 (.copy 32), [6, 32, 27], (some 6), none⟩]))))
   (.rg [o1 33 (.data (.bin .add) [.t 23, .c (.int .i64 (1))]),
     o1 23 (.copy 33)]))))))))))
  (.rg [o1 34 (.data (.bin .add) [.t 17, .c (.int .i64 (1))]),
    o1 17 (.copy 34)]))))))))
 (.seq (.rg [⟨false, [], [], .det 2 (.copy 6), [35, 6], (some 35), none⟩,
   ⟨false, [], [], .det 2 (.copy 35), [4, 35], (some 4), none⟩,
   o1 5 (.lit [.b] [.bool true])])
 .ret))))
def s51 : Sig := ⟨[.rd false [.sl (.own none) [.sl (.own none) [.d, .d]]], .rd false [.sl (.own none) [.d, .d]]], (.tup [(false, 1), (false, 1)] [.sl (.own none) [.d, .d], .d])⟩
noncomputable def E51 : TEnv := envOf [(98, p98), (97, p97)]
noncomputable def f51 (n : Nat) : (List (List (Int × Int))) × (List (Int × Int)) → Option ((List (Int × Int) × Bool) × (Unit)) := runFn n E51 c51 [[.sl [.sl [.i .i64, .i .i64]]], [.sl [.i .i64, .i .i64]]] [.sl [.i .i64, .i .i64], .b] [] [4, 5] .no
noncomputable def g51 : (List (List (Int × Int))) × (List (Int × Int)) → Option ((List (Int × Int) × Bool) × (Unit)) := f51 BIG
noncomputable def p51 : TSp := ⟨s51, [[.sl [.sl [.i .i64, .i .i64]]], [.sl [.i .i64, .i .i64]]], [.sl [.i .i64, .i .i64], .b], [], Ou.j .no, g51⟩
theorem k51 : chkW PG E51 51 s51 (c51.ht 36) .no = some (c51.wc E51, [4, 5]) := by kernel_rfl
theorem ok51 : p51.Ok PG 51 := mkOk (env_cons ok98 (env_cons ok97 (env_nil PG))) k51 (by kernel_rfl)
theorem e51 (n : Nat) (a0 : List ((List (Int × Int)))) (a1 : List (Int × Int)) : f51 n (a0, a1) =
  Option.bind (bif decide (a0.length ≤ 4294967296) then
    bif decide (a0.length + [a1].length ≤ 4294967296) then
     loopT n (fun (self1 : (List (Int × Int)) × Int → Option (((List (Int × Int))) ⊕ ((List (Int × Int)) × Bool))) (x0 : (List (Int × Int)) × Int) =>
      bif decide (x0.2 < ((a0 ++ [a1]).length : Int)) then
       Option.bind (bnd (a0 ++ [a1]).length x0.2 fun n2 =>
        Option.bind (a0 ++ [a1])[n2]? fun y3 =>
        loopT n (fun (self5 : (List (Int × Int)) × Int → Option (((List (Int × Int))) ⊕ ((List (Int × Int)) × Bool))) (x4 : (List (Int × Int)) × Int) =>
         bif decide (x4.2 < (y3.length : Int)) then
          bnd y3.length x4.2 fun n6 =>
          Option.bind y3[n6]? fun y7 =>
          Option.bind (g98 (x4.1, (y7.1, y7.2))) fun r8 =>
          bif r8.1 then
           some (Sum.inr ([], false))
          else Option.bind (g97 (x4.1, (y7.1, y7.2))) fun r9 =>
          self5 (r9.1, IntKind.wrap .i64 (x4.2 + (1 : Int)))
         else some (Sum.inl x4.1)) (x0.1, (0 : Int)) : Option (((List (Int × Int))) ⊕ ((List (Int × Int)) × Bool))) fun y => match y with
       | .inl x10 =>
        self1 (x10, IntKind.wrap .i64 (x0.2 + (1 : Int)))
       | .inr x10 =>
        some (Sum.inr (x10.1, x10.2))
      else some (Sum.inl x0.1)) ([], (0 : Int))
    else none
   else none : Option (((List (Int × Int))) ⊕ ((List (Int × Int)) × Bool))) fun y => match y with
  | .inl x11 =>
   some ((x11, true), ())
  | .inr x11 =>
   some ((x11.1, x11.2), ()) := by kernel_rfl
/- laws.eqEdgeSS -/
def c52 : TC :=
 (.seq (.rg [o1 4 (.lit [.b] [.bool false])])
 (.seq (.seq (.rg [o1 6 (.copy 0),
   o1 7 (.len 6),
   o1 8 (.copy 1),
   o1 9 (.len 8),
   o1 10 (.data (.bin .neq) [.t 7, .t 9])])
 (.cond (.t 10)
  (.seq (.rg [o1 4 (.lit [.b] [.bool false])])
  .ret)
  .skip))
 (.seq (.join [] 134215728 (some [⟨4, [.b], false⟩]) (.seq (.rg [o1 5 (.lit [.i .i64] [.int .i64 (0)])])
 (.block 0 (.loop [⟨5, [.i .i64], false⟩] 134215728
  (.seq (.seq (.rg [o1 11 (.copy 5),
    o1 12 (.copy 0),
    o1 13 (.len 12),
    o1 14 (.data (.bin .lss) [.t 11, .t 13])])
  (.cond (.t 14)
   .skip
   (.exit 0)))
  (.seq (.block 1 (.seq (.rg [o1 17 (.copy 0),
    o1 18 (.copy 5),
    o1 19 (.index 17 (.t 18)),
    o1 20 (.load 17 [(0, 1)] 0 (.t 19) 1 false),
    o1 21 (.copy 1),
    o1 22 (.copy 5),
    o1 23 (.index 21 (.t 22)),
    o1 24 (.load 21 [(0, 1)] 0 (.t 23) 1 false),
    ⟨false, [], [], .call 1 28 [.t 20, .t 24] .no, [25], (some 25), none⟩,
    o1 26 (.data .not [.t 25])])
  (.cond (.t 26)
   (.seq (.rg [o1 4 (.lit [.b] [.bool false])])
   .ret)
   .skip)))
  (.rg [o1 15 (.copy 5),
    o1 16 (.data (.bin .add) [.t 15, .c (.int .i64 (1))]),
    o1 5 (.copy 16)])))))))
 (.seq (.rg [o1 4 (.lit [.b] [.bool true])])
 .ret))))
def s52 : Sig := ⟨[.rd false [.sl (.own none) [.sl (.own none) [.d, .d]]], .rd false [.sl (.own none) [.sl (.own none) [.d, .d]]]], (.one false [.d])⟩
noncomputable def E52 : TEnv := envOf [(28, p28)]
noncomputable def f52 (n : Nat) : (List (List (Int × Int))) × (List (List (Int × Int))) → Option ((Bool) × (Unit)) := runFn n E52 c52 [[.sl [.sl [.i .i64, .i .i64]]], [.sl [.sl [.i .i64, .i .i64]]]] [.b] [] [4] .no
noncomputable def g52 : (List (List (Int × Int))) × (List (List (Int × Int))) → Option ((Bool) × (Unit)) := f52 BIG
noncomputable def p52 : TSp := ⟨s52, [[.sl [.sl [.i .i64, .i .i64]]], [.sl [.sl [.i .i64, .i .i64]]]], [.b], [], Ou.j .no, g52⟩
theorem k52 : chkW PG E52 52 s52 (c52.ht 27) .no = some (c52.wc E52, [4]) := by kernel_rfl
theorem ok52 : p52.Ok PG 52 := mkOk (env_cons ok28 (env_nil PG)) k52 (by kernel_rfl)
theorem e52 (n : Nat) (a0 : List ((List (Int × Int)))) (a1 : List ((List (Int × Int)))) : f52 n (a0, a1) =
  bif !decide ((a0.length : Int) = (a1.length : Int)) then
   some (false, ())
  else Option.bind (loopT n (fun (self1 : Int → Option ((Unit) ⊕ (Bool))) (x0 : Int) =>
    bif decide (x0 < (a0.length : Int)) then
     bnd a0.length x0 fun n2 =>
     Option.bind a0[n2]? fun y3 =>
     bnd a1.length x0 fun n4 =>
     Option.bind a1[n4]? fun y5 =>
     Option.bind (g28 (y3, y5)) fun r6 =>
     bif !r6.1 then
      some (Sum.inr false)
     else self1 (IntKind.wrap .i64 (x0 + (1 : Int)))
    else some (Sum.inl ())) (0 : Int) : Option ((Unit) ⊕ (Bool))) fun y => match y with
  | .inl x7 =>
   some (true, ())
  | .inr x7 =>
   some (x7, ()) := by kernel_rfl
/- laws.markEdgeSS -/
def c53 : TC :=
 (.seq (.rg [o1 4 (.lit [.i .i64] [.int .i64 (0)])])
 (.seq (.join [⟨0, [.sl [.sl [.i .i64, .i .i64]]], false⟩, ⟨1, [.i .i64], false⟩] 262115 none (.seq (.rg [o1 5 (.lit [.i .i64] [.int .i64 (0)])])
 (.block 0 (.loop [⟨0, [.sl [.sl [.i .i64, .i .i64]]], false⟩, ⟨1, [.i .i64], false⟩, ⟨5, [.i .i64], false⟩] 262115
  (.seq (.seq (.rg [o1 6 (.copy 5),
    ⟨true, [], [], .det 1 (.copy 0), [7], (some 7), none⟩,
    o1 8 (.len 7),
    o1 9 (.data (.bin .lss) [.t 6, .t 8])])
  (.cond (.t 9)
   .skip
   (.exit 0)))
  (.seq (.block 1 (.rg [⟨true, [], [], .det 1 (.copy 0), [12], (some 12), none⟩,
    o1 13 (.copy 5),
    o1 14 (.index 12 (.t 13)),
    o1 15 (.load 0 [(0, 1)] 0 (.t 14) 1 true),
    o1 16 (.copy 1),
    ⟨false, [], [], .call 2 31 [.t 15, .t 16] (.mt 0 [(0, 1)] 0 15 0), [17, 0, 7, 15, 14, 12], (some 17), none⟩,
    o1 1 (.copy 17)]))
  (.rg [o1 10 (.copy 5),
    o1 11 (.data (.bin .add) [.t 10, .c (.int .i64 (1))]),
    o1 5 (.copy 11)])))))))
 (.seq (.rg [o1 18 (.copy 1),
   o1 4 (.copy 18)])
 .ret)))
def s53 : Sig := ⟨[.mt false [.sl (.own none) [.sl (.own none) [.d, .d]]], .rd false [.d]], (.one false [.d])⟩
noncomputable def E53 : TEnv := envOf [(31, p31)]
noncomputable def f53 (n : Nat) : (List (List (Int × Int))) × Int → Option ((Int) × (List (List (Int × Int)))) := runFn n E53 c53 [[.sl [.sl [.i .i64, .i .i64]]], [.i .i64]] [.i .i64] [.sl [.sl [.i .i64, .i .i64]]] [4] (.mt 0 0 0)
noncomputable def g53 : (List (List (Int × Int))) × Int → Option ((Int) × (List (List (Int × Int)))) := f53 BIG
noncomputable def p53 : TSp := ⟨s53, [[.sl [.sl [.i .i64, .i .i64]]], [.i .i64]], [.i .i64], [.sl [.sl [.i .i64, .i .i64]]], Ou.j (.mt 0 0 0), g53⟩
theorem k53 : chkW PG E53 53 s53 (c53.ht 19) (.mt 0 0 0) = some (c53.wc E53, [4]) := by kernel_rfl
theorem ok53 : p53.Ok PG 53 := mkOk (env_cons ok31 (env_nil PG)) k53 (by kernel_rfl)
theorem e53 (n : Nat) (a0 : List ((List (Int × Int)))) (a1 : Int) : f53 n (a0, a1) =
  Option.bind (loopT n (fun (self1 : (List ((List (Int × Int)))) × Int × Int → Option ((List ((List (Int × Int)))) × Int)) (x0 : (List ((List (Int × Int)))) × Int × Int) =>
    bif decide (x0.2.2 < (x0.1.length : Int)) then
     bnd x0.1.length x0.2.2 fun n2 =>
     Option.bind x0.1[n2]? fun y3 =>
     Option.bind (g31 (y3, x0.2.1)) fun r4 =>
     Option.bind x0.1[n2]? fun y5 =>
     self1 (x0.1.set n2 r4.2, r4.1, IntKind.wrap .i64 (x0.2.2 + (1 : Int)))
    else some (x0.1, x0.2.1)) (a0, a1, (0 : Int)) : Option ((List ((List (Int × Int)))) × Int)) fun x6 =>
  some (x6.2, x6.1) := by kernel_rfl
/- laws.FnExactWholeEdges -/
def c8 : TC :=
 (.seq (.rg [o1 4 (.lit [.b] [.bool false])])
 (.seq (.rg [o1 5 (.lit [.i .i64] [.int .i64 (1048576)])])
 (.seq (.rg [o1 17 (.copy 0),
   o1 18 (.copy 5),
   ⟨false, [], [], .call 1 48 [.t 17, .t 18] .no, [19], (some 19), none⟩,
   o1 5 (.copy 19)])
 (.seq (.seq (.rg [o1 20 (.copy 5),
   o1 21 (.data (.bin .lss) [.t 20, .c (.int .i64 (0))])])
 (.cond (.t 21)
  (.seq (.rg [o1 4 (.lit [.b] [.bool true])])
  .ret)
  .skip))
 (.seq (.rg [o1 22 (.copy 1),
   o1 23 (.copy 5),
   ⟨false, [], [], .call 1 25 [.t 22, .t 23] .no, [24], (some 24), none⟩,
   o1 5 (.copy 24)])
 (.seq (.seq (.rg [o1 25 (.copy 5),
   o1 26 (.data (.bin .lss) [.t 25, .c (.int .i64 (0))])])
 (.cond (.t 26)
  (.seq (.rg [o1 4 (.lit [.b] [.bool true])])
  .ret)
  .skip))
 (.seq (.rg [o1 28 (.copy 0),
   ⟨false, [], [], .call 1 50 [.t 28] .no, [29], (some 29), none⟩,
   o1 30 (.copy 1),
   ⟨false, [], [], .call 1 27 [.t 30] .no, [31], (some 31), none⟩,
   ⟨false, [], [], .call 1 49 [.t 29, .t 31] .no, [32], (some 32), none⟩,
   ⟨false, [], [], .det 2 (.copy 32), [27, 32], (some 27), none⟩,
   ⟨false, [], [], .det 2 (.ext 27 0 1), [33, 27], (some 33), none⟩,
   ⟨false, [], [], .det 2 (.ext 27 1 1), [34, 27], (some 34), none⟩,
   ⟨false, [], [], .det 2 (.copy 33), [6, 33], (some 6), none⟩,
   o1 7 (.copy 34)])
 (.seq (.rg [o1 35 (.copy 0),
   ⟨false, [], [], .call 1 50 [.t 35] .no, [36], (some 36), none⟩,
   ⟨false, [], [], .det 2 (.copy 36), [8, 36], (some 8), none⟩])
 (.seq (.rg [o1 37 (.copy 1),
   ⟨false, [], [], .call 1 27 [.t 37] .no, [38], (some 38), none⟩,
   ⟨false, [], [], .det 2 (.copy 38), [9, 38], (some 9), none⟩])
 (.seq (.rg [⟨true, [], [], .det 1 (.copy 8), [40], (some 40), none⟩,
   ⟨true, [], [], .det 1 (.copy 9), [41], (some 41), none⟩,
   ⟨false, [], [], .call 1 51 [.t 40, .t 41] .no, [42], (some 42), none⟩,
   ⟨false, [], [], .det 2 (.copy 42), [39, 42], (some 39), none⟩,
   ⟨false, [], [], .det 2 (.ext 39 0 1), [43, 39], (some 43), none⟩,
   ⟨false, [], [], .det 2 (.ext 39 1 1), [44, 39], (some 44), none⟩,
   ⟨false, [], [], .det 2 (.copy 43), [10, 43], (some 10), none⟩,
   o1 11 (.copy 44)])
 (.seq (.seq (.join [⟨53, [.b], false⟩] 17979214137393152 none (.rg [⟨true, [], [], .det 1 (.copy 10), [45], (some 45), none⟩,
   ⟨true, [], [], .det 1 (.copy 6), [46], (some 46), none⟩,
   ⟨false, [], [], .call 1 28 [.t 45, .t 46] .no, [47], (some 47), none⟩,
   o1 48 (.data .not [.t 47]),
   o1 49 (.copy 48),
   ⟨false, [], [], .det 1 (.copy 11), [50], (some 50), some (4, false)⟩,
   ⟨false, [], [], .det 1 (.copy 7), [51], (some 51), some (4, false)⟩,
   ⟨false, [], [], .det 1 (.data (.beq true) [.t 50, .t 51]), [52], (some 52), some (4, false)⟩,
   ⟨false, [], [], .pick 49 (.c (.bool true)) (.t 52), [53], (some 53), none⟩]))
 (.cond (.t 53)
  (.seq (.rg [o1 4 (.lit [.b] [.bool false])])
  .ret)
  .skip))
 (.seq (.seq (.rg [⟨true, [], [], .det 1 (.copy 8), [54], (some 54), none⟩,
   o1 55 (.copy 0),
   ⟨false, [], [], .call 1 50 [.t 55] .no, [56], (some 56), none⟩,
   ⟨false, [], [], .call 1 52 [.t 54, .t 56] .no, [57], (some 57), none⟩,
   o1 58 (.data .not [.t 57])])
 (.cond (.t 58)
  (.seq (.rg [o1 4 (.lit [.b] [.bool false])])
  .ret)
  .skip))
 (.seq (.seq (.rg [⟨true, [], [], .det 1 (.copy 9), [59], (some 59), none⟩,
   o1 60 (.copy 1),
   ⟨false, [], [], .call 1 27 [.t 60] .no, [61], (some 61), none⟩,
   ⟨false, [], [], .call 1 28 [.t 59, .t 61] .no, [62], (some 62), none⟩,
   o1 63 (.data .not [.t 62])])
 (.cond (.t 63)
  (.seq (.rg [o1 4 (.lit [.b] [.bool false])])
  .ret)
  .skip))
 (.seq (.rg [o1 12 (.lit [.i .i64] [.int .i64 (1)])])
 (.seq (.rg [⟨false, [], [], .det 2 (.copy 8), [64, 8, 40, 54], (some 64), none⟩,
   o1 65 (.copy 12),
   ⟨false, [], [], .call 2 53 [.t 64, .t 65] (.mt 64 [] 0 64 0), [66, 64], (some 66), none⟩,
   o1 12 (.copy 66)])
 (.seq (.rg [⟨false, [], [], .det 2 (.copy 9), [67, 9, 41, 59], (some 67), none⟩,
   o1 68 (.copy 12),
   ⟨false, [], [], .call 2 31 [.t 67, .t 68] (.mt 67 [] 0 67 0), [69, 67], (some 69), none⟩,
   o1 12 (.copy 69)])
 (.seq (.seq (.join [⟨82, [.b], false⟩] 9670225965296315986345984 none (.rg [o1 70 (.copy 12),
   o1 71 (.data (.bin .lss) [.t 70, .c (.int .i64 (0))]),
   o1 72 (.copy 71),
   ⟨true, [], [], .det 1 (.copy 10), [73], (some 73), some (2, false)⟩,
   ⟨true, [], [], .det 1 (.copy 6), [74], (some 74), some (2, false)⟩,
   ⟨false, [], [], .call 1 28 [.t 73, .t 74] .no, [75], (some 75), some (2, false)⟩,
   ⟨false, [], [], .det 1 (.data .not [.t 75]), [76], (some 76), some (2, false)⟩,
   ⟨false, [], [], .pick 72 (.c (.bool true)) (.t 76), [77], (some 77), none⟩,
   o1 78 (.copy 77),
   ⟨false, [], [], .det 1 (.copy 11), [79], (some 79), some (8, false)⟩,
   ⟨false, [], [], .det 1 (.copy 7), [80], (some 80), some (8, false)⟩,
   ⟨false, [], [], .det 1 (.data (.beq true) [.t 79, .t 80]), [81], (some 81), some (8, false)⟩,
   ⟨false, [], [], .pick 78 (.c (.bool true)) (.t 81), [82], (some 82), none⟩]))
 (.cond (.t 82)
  (.seq (.rg [o1 4 (.lit [.b] [.bool false])])
  .ret)
  .skip))
 (.seq (.rg [o1 13 (.lit [.i .i64] [.int .i64 (1)])])
 (.seq (.rg [⟨true, [], [], .det 1 (.copy 10), [83], (some 83), none⟩,
   o1 84 (.copy 13),
   ⟨false, [], [], .call 2 31 [.t 83, .t 84] (.mt 10 [] 0 83 0), [85, 10, 45, 83], (some 85), none⟩,
   o1 13 (.copy 85)])
 (.seq (.rg [o1 14 (.lit [.i .i64] [.int .i64 (1)])])
 (.seq (.rg [⟨true, [], [], .det 1 (.copy 10), [86], (some 86), none⟩,
   o1 87 (.copy 14),
   ⟨false, [], [], .call 1 32 [.t 86, .t 87] .no, [88], (some 88), none⟩,
   o1 14 (.copy 88)])
 (.seq (.seq (.rg [o1 89 (.copy 14),
   o1 90 (.data (.bin .lss) [.t 89, .c (.int .i64 (0))])])
 (.cond (.t 90)
  (.seq (.rg [o1 4 (.lit [.b] [.bool false])])
  .ret)
  .skip))
 (.seq (.seq (.rg [o1 91 (.copy 14),
   o1 92 (.copy 13),
   o1 93 (.data (.bin .neq) [.t 91, .t 92])])
 (.cond (.t 93)
  (.seq (.rg [o1 4 (.lit [.b] [.bool false])])
  .ret)
  .skip))
 (.seq (.rg [o1 95 (.copy 0),
   ⟨false, [], [], .call 1 50 [.t 95] .no, [96], (some 96), none⟩,
   o1 97 (.copy 1),
   ⟨false, [], [], .call 1 27 [.t 97] .no, [98], (some 98), none⟩,
   ⟨false, [], [], .call 1 51 [.t 96, .t 98] .no, [99], (some 99), none⟩,
   ⟨false, [], [], .det 2 (.copy 99), [94, 99], (some 94), none⟩,
   ⟨false, [], [], .det 2 (.ext 94 0 1), [100, 94], (some 100), none⟩,
   ⟨false, [], [], .det 2 (.ext 94 1 1), [101, 94], (some 101), none⟩,
   ⟨false, [], [], .det 2 (.copy 100), [15, 100], (some 15), none⟩,
   o1 16 (.copy 101)])
 (.seq (.seq (.join [⟨110, [.b], false⟩] 2591077826866500896729630095999040 none (.rg [⟨false, [], [], .det 2 (.copy 15), [102, 15], (some 102), none⟩,
   ⟨false, [], [], .det 2 (.copy 6), [103, 6, 46], (some 103), none⟩,
   ⟨false, [], [], .call 1 28 [.t 102, .t 103] .no, [104], (some 104), none⟩,
   o1 105 (.data .not [.t 104]),
   o1 106 (.copy 105),
   ⟨false, [], [], .det 1 (.copy 16), [107], (some 107), some (4, false)⟩,
   ⟨false, [], [], .det 1 (.copy 7), [108], (some 108), some (4, false)⟩,
   ⟨false, [], [], .det 1 (.data (.beq true) [.t 107, .t 108]), [109], (some 109), some (4, false)⟩,
   ⟨false, [], [], .pick 106 (.c (.bool true)) (.t 109), [110], (some 110), none⟩]))
 (.cond (.t 110)
  (.seq (.rg [o1 4 (.lit [.b] [.bool false])])
  .ret)
  .skip))
 (.seq (.rg [o1 14 (.lit [.i .i64] [.int .i64 (1)])])
 (.seq (.rg [⟨false, [], [], .det 2 (.copy 10), [111, 10, 86], (some 111), none⟩,
   o1 112 (.copy 14),
   ⟨false, [], [], .call 1 32 [.t 111, .t 112] .no, [113], (some 113), none⟩,
   o1 14 (.copy 113)])
 (.seq (.seq (.rg [o1 114 (.copy 14),
   o1 115 (.data (.bin .lss) [.t 114, .c (.int .i64 (0))])])
 (.cond (.t 115)
  (.seq (.rg [o1 4 (.lit [.b] [.bool false])])
  .ret)
  .skip))
 (.seq (.seq (.rg [o1 116 (.copy 14),
   o1 117 (.copy 13),
   o1 118 (.data (.bin .neq) [.t 116, .t 117])])
 (.cond (.t 118)
  (.seq (.rg [o1 4 (.lit [.b] [.bool false])])
  .ret)
  .skip))
 (.seq (.rg [o1 4 (.lit [.b] [.bool true])])
 .ret))))))))))))))))))))))))))))))
def s8 : Sig := ⟨[.rd false [.sl (.own none) [.sl (.own none) [.d, .d]]], .rd false [.sl (.own none) [.d, .d]]], (.one false [.d])⟩
noncomputable def E8 : TEnv := envOf [(48, p48), (25, p25), (50, p50), (27, p27), (49, p49), (51, p51), (28, p28), (52, p52), (53, p53), (31, p31), (32, p32)]
noncomputable def f8 (n : Nat) : (List (List (Int × Int))) × (List (Int × Int)) → Option ((Bool) × (Unit)) := runFn n E8 c8 [[.sl [.sl [.i .i64, .i .i64]]], [.sl [.i .i64, .i .i64]]] [.b] [] [4] .no
noncomputable def g8 : (List (List (Int × Int))) × (List (Int × Int)) → Option ((Bool) × (Unit)) := f8 BIG
noncomputable def p8 : TSp := ⟨s8, [[.sl [.sl [.i .i64, .i .i64]]], [.sl [.i .i64, .i .i64]]], [.b], [], Ou.j .no, g8⟩
theorem k8 : chkW PG E8 8 s8 (c8.ht 119) .no = some (c8.wc E8, [4]) := by kernel_rfl
theorem ok8 : p8.Ok PG 8 := mkOk (env_cons ok48 (env_cons ok25 (env_cons ok50 (env_cons ok27 (env_cons ok49 (env_cons ok51 (env_cons ok28 (env_cons ok52 (env_cons ok53 (env_cons ok31 (env_cons ok32 (env_nil PG)))))))))))) k8 (by kernel_rfl)
theorem e8 (n : Nat) (a0 : List ((List (Int × Int)))) (a1 : List (Int × Int)) : f8 n (a0, a1) =
  Option.bind (g48 (a0, (1048576 : Int))) fun r0 =>
  bif decide (r0.1 < (0 : Int)) then
   some (true, ())
  else Option.bind (g25 (a1, r0.1)) fun r1 =>
  bif decide (r1.1 < (0 : Int)) then
   some (true, ())
  else Option.bind (g50 a0) fun r2 =>
  Option.bind (g27 a1) fun r3 =>
  Option.bind (g49 (r2.1, r3.1)) fun r4 =>
  Option.bind (g50 a0) fun r5 =>
  Option.bind (g27 a1) fun r6 =>
  Option.bind (g51 (r5.1, r6.1)) fun r7 =>
  Option.bind (Option.bind (g28 (r7.1.1, r4.1.1)) fun r8 =>
   bif !r8.1 then
    some true
   else some (!(r7.1.2 == r4.1.2)) : Option (Bool)) fun x9 =>
  bif x9 then
   some (false, ())
  else Option.bind (g50 a0) fun r10 =>
  Option.bind (g52 (r5.1, r10.1)) fun r11 =>
  bif !r11.1 then
   some (false, ())
  else Option.bind (g27 a1) fun r12 =>
  Option.bind (g28 (r6.1, r12.1)) fun r13 =>
  bif !r13.1 then
   some (false, ())
  else Option.bind (g53 (r5.1, (1 : Int))) fun r14 =>
  Option.bind (g31 (r6.1, r14.1)) fun r15 =>
  Option.bind (bif decide (r15.1 < (0 : Int)) then
    some true
   else Option.bind (g28 (r7.1.1, r4.1.1)) fun r16 =>
   bif !r16.1 then
    some true
   else some (!(r7.1.2 == r4.1.2)) : Option (Bool)) fun x17 =>
  bif x17 then
   some (false, ())
  else Option.bind (g31 (r7.1.1, (1 : Int))) fun r18 =>
  Option.bind (g32 (r18.2, (1 : Int))) fun r19 =>
  bif decide (r19.1 < (0 : Int)) then
   some (false, ())
  else bif !decide (r19.1 = r18.1) then
   some (false, ())
  else Option.bind (g50 a0) fun r20 =>
  Option.bind (g27 a1) fun r21 =>
  Option.bind (g51 (r20.1, r21.1)) fun r22 =>
  Option.bind (Option.bind (g28 (r22.1.1, r4.1.1)) fun r23 =>
   bif !r23.1 then
    some true
   else some (!(r22.1.2 == r4.1.2)) : Option (Bool)) fun x24 =>
  bif x24 then
   some (false, ())
  else Option.bind (g32 (r18.2, (1 : Int))) fun r25 =>
  bif decide (r25.1 < (0 : Int)) then
   some (false, ())
  else bif !decide (r25.1 = r18.1) then
   some (false, ())
  else some (true, ()) := by kernel_rfl
end Go.Fw

namespace Go.Fw

/-! edges in order -/
theorem lsB_irrefl (x : Ed) : lsB x x = false := by simp [lsB]
theorem lsB_iff (x y : Ed) : lsB x y = true ↔ x.1 < y.1 ∨ (x.1 = y.1 ∧ x.2 < y.2) := by simp [lsB]
theorem lsB_trans {x y z : Ed} (h : lsB x y = true) (h' : lsB y z = true) : lsB x z = true := by
  rw [lsB_iff] at *; omega
theorem lsB_tri {x y : Ed} (h : lsB x y = false) (h' : lsB y x = false) : x = y := by
  have h1 : ¬ lsB x y = true := by simp [h]
  have h2 : ¬ lsB y x = true := by simp [h']
  rw [lsB_iff] at h1 h2
  exact Prod.ext (by omega) (by omega)
theorem lsB_asymm {x y : Ed} (h : lsB x y = true) : lsB y x = false := by
  cases h' : lsB y x with
  | false => rfl
  | true => have := lsB_trans h h'; rw [lsB_irrefl] at this; cases this

abbrev Srt (l : List Ed) : Prop := l.Pairwise (fun x y => lsB x y = true)

theorem srt_eq : ∀ {a b : List Ed}, Srt a → Srt b → (∀ x, x ∈ a ↔ x ∈ b) → a = b
  | [], [], _, _, _ => rfl
  | [], y :: b, _, _, h => absurd ((h y).2 (by simp)) (by simp)
  | x :: a, [], _, _, h => absurd ((h x).1 (by simp)) (by simp)
  | x :: a, y :: b, ha, hb, h => by
    rw [Srt, List.pairwise_cons] at ha hb
    have hxy : x = y := by
      have h1 := (h x).1 (by simp)
      have h2 := (h y).2 (by simp)
      rcases List.mem_cons.1 h1 with h1 | h1
      · exact h1
      · rcases List.mem_cons.1 h2 with h2 | h2
        · exact h2.symm
        · have k1 := hb.1 x h1
          have k2 := ha.1 y h2
          rw [lsB_asymm k1] at k2; cases k2
    subst hxy
    congr 1
    refine srt_eq ha.2 hb.2 fun z => ⟨fun hz => ?_, fun hz => ?_⟩
    · rcases List.mem_cons.1 ((h z).1 (by simp [hz])) with h1 | h1
      · subst h1; have := ha.1 z hz; rw [lsB_irrefl] at this; cases this
      · exact h1
    · rcases List.mem_cons.1 ((h z).2 (by simp [hz])) with h1 | h1
      · subst h1; have := hb.1 z hz; rw [lsB_irrefl] at this; cases this
      · exact h1

def ins (l : List Ed) (e : Ed) : List Ed := l.filter (fun y => lsB y e) ++ [e] ++ l.filter (fun y => lsB e y)
theorem ins_mem {l : List Ed} {e x : Ed} : x ∈ ins l e ↔ x = e ∨ x ∈ l := by
  simp only [ins, List.mem_append, List.mem_filter, List.mem_singleton]
  constructor
  · rintro ((h | h) | h)
    · exact .inr h.1
    · exact .inl h
    · exact .inr h.1
  · rintro (h | h)
    · exact .inl (.inr h)
    · cases h1 : lsB x e with
      | true => exact .inl (.inl ⟨h, rfl⟩)
      | false =>
        cases h2 : lsB e x with
        | true => exact .inr ⟨h, rfl⟩
        | false => exact .inl (.inr (lsB_tri h1 h2))
theorem ins_srt {l : List Ed} {e : Ed} (h : Srt l) : Srt (ins l e) := by
  simp only [ins, Srt, List.append_assoc, List.pairwise_append, List.singleton_append, List.pairwise_cons]
  refine ⟨h.filter _, ⟨fun y hy => (List.mem_filter.1 hy).2, h.filter _⟩, fun x hx y hy => ?_⟩
  have h1 := (List.mem_filter.1 hx).2
  rcases List.mem_cons.1 hy with hy | hy
  · subst hy; exact h1
  · exact lsB_trans h1 (List.mem_filter.1 hy).2
theorem filter_two_len (e : Ed) : ∀ l : List Ed, (l.filter (fun y => lsB y e)).length + (l.filter (fun y => lsB e y)).length ≤ l.length
  | [] => by simp
  | y :: l => by
    have := filter_two_len e l
    simp only [List.filter_cons]
    cases h1 : lsB y e <;> cases h2 : lsB e y <;> simp
    · omega
    · omega
    · omega
    · rw [lsB_asymm h1] at h2; cases h2
theorem ins_len (l : List Ed) (e : Ed) : (ins l e).length ≤ l.length + 1 := by
  have := filter_two_len e l
  simp only [ins, List.length_append, List.length_singleton]
  omega

/-- How many of the first ones are ahead of it. -/
def fdI : List Ed → Ed → Nat
  | [], _ => 0
  | y :: l, e => if lsB y e then fdI l e + 1 else 0
theorem fdI_ins {l : List Ed} {e : Ed} (h : Srt l) (hne : e ∉ l) : l.take (fdI l e) ++ [e] ++ l.drop (fdI l e) = ins l e := by
  induction l with
  | nil => rfl
  | cons y l ih =>
    rw [Srt, List.pairwise_cons] at h
    have ih := ih h.2 (fun hh => hne (by simp [hh]))
    cases h1 : lsB y e with
    | true =>
      have h2 := lsB_asymm h1
      simp only [fdI, h1, if_true, List.take_succ_cons, List.drop_succ_cons, List.cons_append, ih]
      simp only [ins, List.filter_cons, h1, h2, if_true, List.cons_append]
      simp
    | false =>
      have h2 : lsB e y = true := by
        cases h2 : lsB e y with
        | true => rfl
        | false => exact absurd (lsB_tri h1 h2).symm (fun hh => hne (by simp [hh]))
      have h3 : ∀ z, z ∈ l → lsB z e = false ∧ lsB e z = true := fun z hz => by
        have := lsB_trans h2 (h.1 z hz)
        exact ⟨lsB_asymm this, this⟩
      have f1 : l.filter (fun y => lsB y e) = [] := by
        rw [List.filter_eq_nil_iff]; intro z hz; simp [(h3 z hz).1]
      have f2 : l.filter (fun y => lsB e y) = l := by
        rw [List.filter_eq_self]; intro z hz; exact (h3 z hz).2
      simp only [fdI, h1, ins, List.filter_cons, h2, if_true, f1, f2]
      simp

theorem h108 (l : List Ed) (e : Ed) (hl : l.length ≤ maxLen) : g108 (l, e) = some (decide (e ∈ l), ()) := by
  show f108 BIG _ = _
  rw [e108, allLoop l (Nat.lt_of_le_of_lt hl maxLen_lt) (fun i => decide (l[i]? ≠ some e)) true (fun self i y hy => by
      have hi := (List.getElem?_eq_some_iff.1 hy).1
      simp only [show ((i : Int) < (l.length : Int)) from by omega, decide_true, cond_true]
      rw [bnd_nat hi, hy, Option.bind_some, wr1 (by omega)]
      obtain ⟨y1, y2⟩ := y
      obtain ⟨e1, e2⟩ := e
      by_cases h1 : y1 = e1 <;> by_cases h2 : y2 = e2 <;> simp [h1, h2]) (fun self => by simp)]
  by_cases h : e ∈ l
  · rw [if_neg, decide_eq_true h]
    · rfl
    · intro hh
      obtain ⟨i, hi⟩ := List.getElem?_of_mem h
      have := hh i (List.getElem?_eq_some_iff.1 hi).1
      rw [decide_eq_true_eq] at this
      exact this hi
  · rw [if_pos, decide_eq_false h]
    · rfl
    · intro i hi
      rw [decide_eq_true_eq]
      exact fun hh => h (List.mem_of_getElem? hh)
theorem h98 (l : List Ed) (e : Ed) (hl : l.length ≤ maxLen) : g98 (l, e) = some (decide (e ∈ l), ()) := by
  rw [← h108 l e hl]
  show f98 BIG _ = f108 BIG _
  rw [e98, e108]

theorem h109 (l : List Ed) (e : Ed) (hl : l.length ≤ 1048576) : g109 (l, e) = some (ins l e, ()) := by
  have hm : maxLen = 9223372036854775807 := by decide
  show f109 BIG _ = _
  rw [e109, foldLoop l (by omega) (fun i (c : List Ed) => c.length ≤ i) (fun c y => if lsB y e then c ++ [y] else c) id (by simp) (fun i c y _ (h : c.length ≤ i) => by show List.length (if _ then _ else _) ≤ _; split <;> (try simp) <;> omega)]
  · rw [foldl_filter]
    simp only [id, List.nil_append, Option.bind_some]
    have h1 := List.length_filter_le (fun y => lsB y e) l
    rw [decide_eq_true (by simp; omega), cond_true, foldLoop l (by omega) (fun i (c : List Ed) => c.length ≤ l.length + 1 + i) (fun c y => if lsB e y then c ++ [y] else c) id (by simp; omega) (fun i c y _ (h : c.length ≤ _) => by show List.length (if _ then _ else _) ≤ _; split <;> (try simp) <;> omega)]
    · rw [foldl_filter]; rfl
    · intro self c i y hy (hc : c.length ≤ _)
      have hi := (List.getElem?_eq_some_iff.1 hy).1
      simp only [show ((i : Int) < (l.length : Int)) from by omega, decide_true, cond_true]
      simp only [bnd_nat hi, hy, Option.bind_some, h135, wr1 (show i < maxLen from by omega)]
      cases lsB e y with
      | false => simp
      | true => simp [show c.length + 1 ≤ 4294967296 from by omega]
    · intro self c hc
      simp
  · intro self c i y hy (hc : c.length ≤ i)
    have hi := (List.getElem?_eq_some_iff.1 hy).1
    simp only [show ((i : Int) < (l.length : Int)) from by omega, decide_true, cond_true]
    simp only [bnd_nat hi, hy, Option.bind_some, h135, wr1 (show i < maxLen from by omega)]
    cases lsB y e with
    | false => simp
    | true => simp [show c.length + 1 ≤ 4294967296 from by omega]
  · intro self c hc
    simp

theorem fdI_le : ∀ (l : List Ed) (e : Ed), fdI l e ≤ l.length
  | [], _ => by simp [fdI]
  | y :: l, e => by
    have := fdI_le l e
    simp only [fdI, List.length_cons]
    split <;> omega
theorem fdI_at : ∀ {l : List Ed} {e y : Ed} {i : Nat}, i ≤ fdI l e → l[i]? = some y → lsB y e = decide (i < fdI l e)
  | [], _, _, _, _, hy => by simp at hy
  | z :: l, e, y, i, hi, hy => by
    cases hz : lsB z e with
    | false =>
      simp only [fdI, hz] at hi ⊢
      have : i = 0 := by simpa using hi
      subst this
      simp only [List.getElem?_cons_zero, Option.some.injEq] at hy
      subst hy
      simp [hz]
    | true =>
      simp only [fdI, hz, if_true] at hi ⊢
      cases i with
      | zero =>
        simp only [List.getElem?_cons_zero, Option.some.injEq] at hy
        subst hy
        simp [hz]
      | succ i =>
        simp only [List.getElem?_cons_succ] at hy
        rw [fdI_at (by omega) hy]
        simp

theorem h97 (l : List Ed) (e : Ed) (hl : l.length ≤ 1048576) : g97 (l, e) = some (l.take (fdI l e) ++ [e] ++ l.drop (fdI l e), ()) := by
  have hm : maxLen = 9223372036854775807 := by decide
  have hle := fdI_le l e
  show f97 BIG _ = _
  rw [e97, loop_eq (fun (x : Int) => ∃ i : Nat, x = i ∧ i ≤ fdI l e) (fun (x : Int) => l.length - x.toNat) (fun _ => ((fdI l e : Nat) : Int)) (fun self x ⟨i, h1, h2⟩ hs => by
    subst h1
    by_cases hi : i < l.length
    · have hy := List.getElem?_eq_getElem hi
      have hat := fdI_at h2 hy
      simp only [show ((i : Int) < (l.length : Int)) from by omega, decide_true, cond_true]
      simp only [bnd_nat hi, hy, Option.bind_some, h134, wr1 (show i < maxLen from by omega), hat]
      by_cases hlt : i < fdI l e
      · rw [decide_eq_true hlt, cond_true]
        exact hs _ ⟨i + 1, rfl, hlt⟩ (by simp; omega)
      · rw [decide_eq_false hlt, cond_false]
        have : i = fdI l e := by omega
        rw [← this]
    · have : i = l.length := by omega
      have h3 : fdI l e = i := by omega
      rw [h3, this]
      simp) (n := BIG) (x := 0) (by simp [BIG]; omega) ⟨0, rfl, by omega⟩]
  simp only [Option.bind_some, Int.toNat_natCast, Nat.sub_zero, List.drop_zero]
  rw [decide_eq_true (by omega), cond_true, decide_eq_true (by omega), cond_true, decide_eq_true (by simp; omega), cond_true, decide_eq_true (by simp; omega), cond_true, cond_true, decide_eq_true (by omega), cond_true, decide_eq_true (by simp; omega), cond_true]
  congr 3
  rw [List.take_of_length_le]
  simp

/-- A walk that may fail. -/
def fM {S α : Type} (st : S → α → Option S) : S → List α → Option S
  | s, [] => some s
  | s, y :: l => (st s y).bind fun s' => fM st s' l

theorem exitLoop {α S B : Type} (a : List α) (hl : a.length < 18446744073709551616) {F : (S × Int → Option (S ⊕ B)) → S × Int → Option (S ⊕ B)} (I : Nat → S → Prop) (st : S → α → Option S) (b : B) {s0 : S} (h0 : I 0 s0)
    (hI : ∀ i s y s', a[i]? = some y → I i s → st s y = some s' → I (i + 1) s')
    (hF : ∀ self s (i : Nat) y, a[i]? = some y → I i s → F self (s, (i : Int)) = match st s y with
      | some s' => self (s', ((i + 1 : Nat) : Int))
      | none => some (.inr b))
    (hE : ∀ self s, I a.length s → F self (s, (a.length : Int)) = some (.inl s)) : loopT BIG F (s0, 0) = some (match fM st s0 a with
      | some s => .inl s
      | none => .inr b) := by
  have := loop_eq (F := F) (fun x => ∃ i : Nat, x.2 = i ∧ i ≤ a.length ∧ I i x.1) (fun x => a.length - x.2.toNat) (fun x => match fM st x.1 (a.drop x.2.toNat) with
      | some s => .inl s
      | none => .inr b) (fun self x ⟨i, h1, h2, h3⟩ hs => ?_) (n := BIG) (x := (s0, 0)) (by simp; exact hl) ⟨0, rfl, by simp, h0⟩
  · simpa using this
  · obtain ⟨s, j⟩ := x
    simp only at h1 h2 h3
    subst h1
    by_cases hi : i < a.length
    · have hy := List.getElem?_eq_getElem hi
      rw [hF self s i a[i] hy h3]
      simp only [Int.toNat_natCast]
      rw [List.drop_eq_getElem_cons hi]
      simp only [fM]
      cases hst : st s a[i] with
      | none => rfl
      | some s' =>
        simp only [Option.bind_some]
        rw [hs _ ⟨i + 1, rfl, hi, hI _ _ _ _ hy h3 hst⟩ (by simp; omega)]
        simp
    · have : i = a.length := by omega
      subst this
      rw [hE self s h3]
      simp [fM]

theorem fM_flat {S α : Type} (st : S → α → Option S) : ∀ (l : List (List α)) (s : S), fM st s l.flatten = fM (fun s y => fM st s y) s l
  | [], s => rfl
  | y :: l, s => by
    have app : ∀ (a b : List α) (s : S), fM st s (a ++ b) = (fM st s a).bind fun s' => fM st s' b := by
      intro a b
      induction a with
      | nil => intro s; rfl
      | cons x a ih =>
        intro s
        simp only [List.cons_append, fM, ih, Option.bind_assoc]
    simp only [List.flatten_cons, app, fM]
    congr 1
    funext s'
    exact fM_flat st l s'

def stE (out : List Ed) (e : Ed) : Option (List Ed) := if e ∈ out then none else some (ins out e)
theorem stE_some {out s' : List Ed} {e : Ed} (h : stE out e = some s') : e ∉ out ∧ s' = ins out e := by
  unfold stE at h
  split at h
  · cases h
  · cases h; exact ⟨by assumption, rfl⟩

theorem fM_some : ∀ {A s s' : List Ed}, fM stE s A = some s' → A.Nodup ∧ (∀ x, x ∈ A → x ∉ s) ∧ (∀ x, x ∈ s' ↔ x ∈ s ∨ x ∈ A) ∧ (Srt s → Srt s') ∧ s'.length ≤ s.length + A.length
  | [], s, s', h => by
    simp only [fM, Option.some.injEq] at h
    subst h
    exact ⟨List.nodup_nil, by simp, by simp, id, by simp⟩
  | e :: A, s, s', h => by
    simp only [fM, Option.bind_eq_some_iff] at h
    obtain ⟨s1, h1, h2⟩ := h
    obtain ⟨hne, rfl⟩ := stE_some h1
    obtain ⟨k1, k2, k3, k4, k5⟩ := fM_some h2
    refine ⟨List.nodup_cons.2 ⟨fun hh => k2 e hh (ins_mem.2 (.inl rfl)), k1⟩, fun x hx => ?_, fun x => ?_, fun hs => k4 (ins_srt hs), ?_⟩
    · rcases List.mem_cons.1 hx with rfl | hx
      · exact hne
      · exact fun hh => k2 x hx (ins_mem.2 (.inr hh))
    · rw [k3, ins_mem, List.mem_cons]
      constructor
      · rintro ((h | h) | h)
        · exact .inr (.inl h)
        · exact .inl h
        · exact .inr (.inr h)
      · rintro (h | h | h)
        · exact .inl (.inr h)
        · exact .inl (.inl h)
        · exact .inr h
    · have := ins_len s e
      simp only [List.length_cons]
      omega
theorem fM_ok : ∀ {A s : List Ed}, A.Nodup → (∀ x, x ∈ A → x ∉ s) → ∃ s', fM stE s A = some s'
  | [], s, _, _ => ⟨s, rfl⟩
  | e :: A, s, h, h' => by
    have hn := List.nodup_cons.1 h
    have h1 : stE s e = some (ins s e) := by unfold stE; rw [if_neg (h' e (by simp))]
    obtain ⟨s', hs⟩ := fM_ok (A := A) (s := ins s e) hn.2 fun x hx hh => by
      rcases ins_mem.1 hh with rfl | hh
      · exact hn.1 hx
      · exact h' x (by simp [hx]) hh
    exact ⟨s', by simp only [fM, h1, Option.bind_some]; exact hs⟩
theorem fM_perm {A B : List Ed} (h : A.Perm B) : fM stE [] A = fM stE [] B := by
  cases hA : fM stE [] A with
  | some s =>
    obtain ⟨k1, k2, k3, k4, _⟩ := fM_some hA
    obtain ⟨s', hs⟩ := fM_ok (A := B) (s := []) (h.nodup_iff.1 k1) (by simp)
    obtain ⟨_, _, m3, m4, _⟩ := fM_some hs
    rw [hs, srt_eq (k4 List.Pairwise.nil) (m4 List.Pairwise.nil) fun x => by rw [k3, m3, h.mem_iff]]
  | none =>
    cases hB : fM stE [] B with
    | none => rfl
    | some s =>
      obtain ⟨k1, _⟩ := fM_some hB
      obtain ⟨s', hs⟩ := fM_ok (A := A) (s := []) (h.nodup_iff.2 k1) (by simp)
      rw [hs] at hA; cases hA

def resW (o : Option (List Ed)) : List Ed × Bool := match o with
  | some s => (s, true)
  | none => ([], false)
theorem resW_len {A : List Ed} : (resW (fM stE [] A)).1.length ≤ A.length := by
  cases h : fM stE [] A with
  | none => simp [resW]
  | some s => have := (fM_some h).2.2.2.2; simpa [resW] using this

abbrev LL := List (List (Int × Int))
theorem flat_take {a : LL} {i : Nat} {y : List Ed} (hy : a[i]? = some y) : (a.take (i + 1)).flatten.length = (a.take i).flatten.length + y.length := by
  have hi := (List.getElem?_eq_some_iff.1 hy).1
  have hv := (List.getElem?_eq_some_iff.1 hy).2
  rw [List.take_succ_eq_append_getElem hi, List.flatten_append, List.length_append, hv]
  simp
theorem flat_take_le (a : LL) (i : Nat) : (a.take i).flatten.length ≤ a.flatten.length := by
  have := congrArg List.length (congrArg List.flatten (List.take_append_drop i a))
  rw [List.flatten_append, List.length_append] at this
  omega

theorem h49 (a : LL) (c : List Ed) (hl : a.length ≤ 1048576) (ht : c.length + a.flatten.length ≤ 1048576) : g49 (a, c) = some (resW (fM stE [] (c ++ a.flatten)), ()) := by
  have hm : maxLen = 9223372036854775807 := by decide
  show f49 BIG _ = _
  have hc0 := Nat.le_trans (Nat.le_add_right c.length a.flatten.length) ht
  rw [e49]
  rw [decide_eq_true (by first | omega | (simp; omega)), cond_true, foldLoop a (by omega) (fun i (s : List Ed) => s.length = c.length + (a.take i).flatten.length) (fun s y => s ++ y) id (by simp) (fun i s y hy (h : s.length = _) => by rw [List.length_append, h, flat_take hy]; omega)]
  · have hf : ∀ (l : LL) (s : List Ed), l.foldl (fun s y => s ++ y) s = s ++ l.flatten := by
      intro l
      induction l with
      | nil => intro s; simp
      | cons y l ih => intro s; rw [List.foldl_cons, ih, List.flatten_cons, List.append_assoc]
    simp only [hf, id, List.nil_append, Option.bind_some]
    generalize hx : c ++ a.flatten = x
    have hxl : x.length ≤ 1048576 := by rw [← hx, List.length_append]; exact ht
    rw [exitLoop x (by omega) (fun i (s : List Ed) => s.length ≤ i) stE (([], false) : List Ed × Bool) (by simp) (fun i s y s' hy (h : s.length ≤ i) hs => by
      obtain ⟨_, rfl⟩ := stE_some hs
      have := ins_len s y
      show _ ≤ _
      omega)]
    · cases fM stE [] x <;> rfl
    · intro self s i y hy (hs : s.length ≤ i)
      have hi := (List.getElem?_eq_some_iff.1 hy).1
      simp only [show ((i : Int) < (x.length : Int)) from by omega, decide_true, cond_true]
      simp only [bnd_nat hi, hy, Option.bind_some, h108 s y (by omega), h109 s y (by omega), wr1 (show i < maxLen from by omega)]
      unfold stE
      by_cases h : y ∈ s <;> simp [h]
    · intro self s hs
      simp
  · intro self s i y hy (hs : s.length = _)
    have hi := (List.getElem?_eq_some_iff.1 hy).1
    have h1 := flat_take hy
    have h2 := flat_take_le a (i + 1)
    simp only [show ((i : Int) < (a.length : Int)) from by omega, decide_true, cond_true]
    rw [bnd_nat hi, hy, Option.bind_some, decide_eq_true (by omega), cond_true, wr1 (by omega)]
  · intro self s hs
    simp

theorem h51 (a : LL) (c : List Ed) (hl : a.length ≤ 1048576) (ht : c.length + a.flatten.length ≤ 1048576) : g51 (a, c) = some (resW (fM stE [] (c ++ a.flatten)), ()) := by
  have hm : maxLen = 9223372036854775807 := by decide
  have hp : fM stE [] (c ++ a.flatten) = fM stE [] (a ++ [c]).flatten := by
    refine fM_perm ?_
    rw [List.flatten_append]
    simp only [List.flatten_cons, List.flatten_nil, List.append_nil]
    exact List.perm_append_comm
  rw [hp]
  have htt : (a ++ [c]).flatten.length ≤ 1048576 := by rw [List.flatten_append, List.length_append]; simp only [List.flatten_cons, List.flatten_nil, List.append_nil]; omega
  have hll : (a ++ [c]).length ≤ 1048577 := by simp; omega
  show f51 BIG _ = _
  rw [e51, decide_eq_true (by omega), cond_true, decide_eq_true (by simp; omega), cond_true]
  generalize a ++ [c] = b at *
  rw [exitLoop b (by omega) (fun i (s : List Ed) => s.length ≤ (b.take i).flatten.length ∧ Srt s) (fun s y => fM stE s y) (([], false) : List Ed × Bool) ⟨by simp, List.Pairwise.nil⟩ (fun i s y s' hy h hs => by
      obtain ⟨_, _, _, h4, h5⟩ := fM_some hs
      exact ⟨by rw [flat_take hy]; have := h.1; omega, h4 h.2⟩)]
  · rw [← fM_flat]
    cases fM stE [] b.flatten <;> rfl
  · intro self s i y hy ⟨hs, hsrt⟩
    have hi := (List.getElem?_eq_some_iff.1 hy).1
    have h1 := flat_take hy
    have h2 := flat_take_le b (i + 1)
    simp only [show ((i : Int) < (b.length : Int)) from by omega, decide_true, cond_true]
    rw [bnd_nat hi, hy, Option.bind_some, wr1 (by omega), exitLoop y (by omega) (fun k (u : List Ed) => u.length ≤ s.length + k ∧ Srt u) stE (([], false) : List Ed × Bool) ⟨by simp, hsrt⟩ (fun k u z u' hz h hu => by
      obtain ⟨_, rfl⟩ := stE_some hu
      have := ins_len u z
      exact ⟨by have := h.1; omega, ins_srt h.2⟩)]
    · cases fM stE s y <;> rfl
    · intro self2 u k z hz ⟨hu, husrt⟩
      have hk := (List.getElem?_eq_some_iff.1 hz).1
      simp only [show ((k : Int) < (y.length : Int)) from by omega, decide_true, cond_true]
      rw [bnd_nat hk, hz, Option.bind_some, wr1 (by omega)]
      simp only [h98 u z (by omega), h97 u z (by omega), Option.bind_some]
      unfold stE
      by_cases h : z ∈ u
      · simp [h]
      · rw [decide_eq_false h, cond_false, if_neg h, fdI_ins husrt h]
    · intro self2 u hu
      simp
  · intro self s hs
    simp

theorem h50 (a : LL) (ha : a.length ≤ 1048576) (hy' : ∀ y, y ∈ a → y.length ≤ 1048576) : g50 a = some (a, ()) := by
  have hm : maxLen = 9223372036854775807 := by decide
  show f50 BIG a = _
  rw [e50, decide_eq_true (by omega), cond_true, decide_eq_true (by simp; omega), cond_true]
  simp only [Int.toNat_natCast]
  rw [cpLoop a (by omega)]
  · rfl
  · intro self out i y hl hy
    have hi := (List.getElem?_eq_some_iff.1 hy).1
    simp only [show ((i : Int) < (a.length : Int)) from by omega, decide_true, cond_true]
    rw [bnd_nat hi, hy, Option.bind_some, h27 y (hy' y (List.mem_of_getElem? hy)), Option.bind_some, bnd_nat (by omega), List.getElem?_eq_getElem (by omega), Option.bind_some, wr1 (by omega)]
  · intro self out hl
    simp
theorem h52 (a : LL) (ha : a.length ≤ maxLen) (hy' : ∀ y, y ∈ a → y.length ≤ maxLen) : g52 (a, a) = some (true, ()) := by
  show f52 BIG _ = _
  rw [e52, decide_eq_true rfl, Bool.not_true, cond_false, eqLoop a a ha rfl false]
  · simp
  · intro self i x y hx hy
    have hi := (List.getElem?_eq_some_iff.1 hx).1
    simp only [show ((i : Int) < (a.length : Int)) from by omega, decide_true, cond_true]
    rw [bnd_nat hi, hx, Option.bind_some, bnd_nat hi, hy, Option.bind_some, h28 x y (hy' x (List.mem_of_getElem? hx)), Option.bind_some, wr1 (by omega)]
    by_cases h : x = y <;> simp [h]
  · intro self
    simp

def stS (l : Int) (y : List Ed) : Option Int := if (y.length : Int) ≤ l then some (l - y.length) else none
theorem fM_sz : ∀ {a : LL} {l r : Int}, fM stS l a = some r → r = l - (a.flatten.length : Int) ∧ (0 ≤ l → 0 ≤ r)
  | [], l, r, h => by
    simp only [fM, Option.some.injEq] at h
    subst h
    simp
  | y :: a, l, r, h => by
    simp only [fM, Option.bind_eq_some_iff] at h
    obtain ⟨s, h1, h2⟩ := h
    unfold stS at h1
    split at h1
    · cases h1
      obtain ⟨k1, k2⟩ := fM_sz h2
      rw [List.flatten_cons, List.length_append]
      exact ⟨by omega, fun hl => k2 (by omega)⟩
    · cases h1
theorem h48 (a : LL) (ha : a.length ≤ maxLen) (hy' : ∀ y, y ∈ a → y.length ≤ maxLen) : ∃ r : Int, g48 (a, 1048576) = some (r, ()) ∧ (0 ≤ r → r = 1048576 - (a.length : Int) - (a.flatten.length : Int)) := by
  have hm : maxLen = 9223372036854775807 := by decide
  have e1 : g48 (a, 1048576) = f48 BIG (a, 1048576) := rfl
  rw [e1, e48, wr (by omega) (by omega)]
  by_cases h : (1048576 : Int) - (a.length : Int) < 0
  · rw [decide_eq_true h]; exact ⟨-1, rfl, by omega⟩
  · rw [decide_eq_false h, cond_false, exitLoop a (by omega) (fun i (s : Int) => 0 ≤ s ∧ s ≤ 1048576) stS (-1 : Int) ⟨by omega, by omega⟩ (fun i s y s' hy hs h1 => by
      unfold stS at h1
      split at h1
      · cases h1; have := hs.1; have := hs.2; constructor <;> omega
      · cases h1)]
    · cases hr : fM stS (1048576 - (a.length : Int)) a with
      | none => exact ⟨-1, rfl, by omega⟩
      | some r => exact ⟨r, rfl, fun _ => (fM_sz hr).1⟩
    · intro self s i y hy ⟨hs, hs'⟩
      have hi := (List.getElem?_eq_some_iff.1 hy).1
      simp only [show ((i : Int) < (a.length : Int)) from by omega, decide_true, cond_true]
      rw [bnd_nat hi, hy, Option.bind_some, wr1 (by omega), h25 y s hs hs' (hy' y (List.mem_of_getElem? hy)), Option.bind_some]
      unfold stS
      by_cases hc : (y.length : Int) ≤ s
      · rw [if_pos hc, if_pos hc, decide_eq_false (by simp; omega)]; rfl
      · rw [if_neg hc, if_neg hc]; rfl
    · intro self s hs
      simp

theorem h53 (a : LL) (ha : a.length ≤ 1048576) (ht : a.flatten.length ≤ 1048576) : ∃ t, g53 (a, 1) = some (1 + 2 * (a.flatten.length : Int), t) := by
  have hm : maxLen = 9223372036854775807 := by decide
  refine ⟨(List.range a.length).map fun (i : Nat) => edM (1 + 2 * ((a.take i).flatten.length : Int)) (a.getD i []).length, ?_⟩
  show f53 BIG _ = _
  rw [e53]
  have := markLoop a ((List.range a.length).map fun (i : Nat) => edM (1 + 2 * ((a.take i).flatten.length : Int)) (a.getD i []).length) (by simp) (by omega) (fun i => 1 + 2 * ((a.take i).flatten.length : Int)) (F := fun (self1 : (List ((List (Int × Int)))) × Int × Int → Option ((List ((List (Int × Int)))) × Int)) (x0 : (List ((List (Int × Int)))) × Int × Int) =>
    bif decide (x0.2.2 < (x0.1.length : Int)) then
     bnd x0.1.length x0.2.2 fun n2 =>
     Option.bind x0.1[n2]? fun y3 =>
     Option.bind (g31 (y3, x0.2.1)) fun r4 =>
     Option.bind x0.1[n2]? fun y5 =>
     self1 (x0.1.set n2 r4.2, r4.1, IntKind.wrap .i64 (x0.2.2 + (1 : Int)))
    else some (x0.1, x0.2.1)) ?_ ?_
  · simp only [List.take_zero, List.flatten_nil, List.length_nil, List.take_length] at this
    simp only [show (1 : Int) + 2 * ((0 : Nat) : Int) = 1 from by simp] at this
    rw [this]
    rfl
  · intro self out i y z hi hl hy hya hz
    have h1 := flat_take hya
    have h2 := flat_take_le a (i + 1)
    simp only [List.getElem?_map, List.getElem?_range hi, Option.map_some, Option.some.injEq] at hz
    have hd : a.getD i [] = y := by rw [List.getD_eq_getElem?_getD, hya]; rfl
    rw [hd] at hz
    subst hz
    simp only [show ((i : Int) < (out.length : Int)) from by omega, decide_true, cond_true]
    rw [bnd_nat (by omega), hy, Option.bind_some, h31 y _ (by omega) (by omega) (by omega), Option.bind_some, Option.bind_some, wr1 (by omega)]
    congr 3
    omega
  · intro self out hl
    simp [hl]

theorem law8 (a : LL) (c : List Ed) (h1 : a.length ≤ maxLen) (h1' : ∀ y, y ∈ a → y.length ≤ maxLen) (h2 : c.length ≤ maxLen) : g8 (a, c) = some (true, ()) := by
  have hm : maxLen = 9223372036854775807 := by decide
  show f8 BIG _ = _
  rw [e8]
  obtain ⟨r, hr, hrv⟩ := h48 a h1 h1'
  rw [hr, Option.bind_some]
  by_cases hr0 : r < 0
  · rw [decide_eq_true hr0]; rfl
  · have hrv := hrv (by omega)
    rw [decide_eq_false hr0, cond_false, h25 c r (by omega) (by omega) h2, Option.bind_some]
    by_cases hc : (c.length : Int) ≤ r
    · rw [if_pos hc, decide_eq_false (by simp; omega), cond_false]
      have ha : a.length ≤ 1048576 := by omega
      have ht : c.length + a.flatten.length ≤ 1048576 := by omega
      have hy : ∀ y, y ∈ a → y.length ≤ 1048576 := fun y hy => by
        have : y.length ≤ a.flatten.length := by
          obtain ⟨i, hi⟩ := List.getElem?_of_mem hy
          have h1 := flat_take hi
          have h2 := flat_take_le a (i + 1)
          omega
        omega
      have hw := resW_len (A := c ++ a.flatten)
      rw [List.length_append] at hw
      obtain ⟨t, h53'⟩ := h53 a ha (by omega)
      simp only [h50 a ha hy, h27 c (by omega), h49 a c ha ht, h51 a c ha ht, h52 a h1 h1', h53', Option.bind_some]
      generalize resW (fM stE [] (c ++ a.flatten)) = R at *
      simp only [h28 R.1 R.1 (by omega), h28 c c h2, Option.bind_some, decide_true, Bool.not_true, cond_false, beq_self_eq_true]
      rw [h31 c _ (by omega) (by omega) (by omega)]
      simp only [Option.bind_some]
      rw [decide_eq_false (by omega)]
      simp only [Option.bind_some, cond_false]
      rw [h31 _ 1 (by omega) (by omega) (by omega)]
      simp only [Option.bind_some]
      rw [h32 _ 1 (by omega) (by omega) (by omega)]
      simp only [Option.bind_some]
      rw [decide_eq_false (by omega)]
      simp
    · rw [if_neg hc]; rfl
end Go.Fw

/- The given functions, as what they compute; each is shown to be what the code does. -/
namespace Go.Fw
/- laws.big -/
def c20 : TC :=
 (.seq (.rg [o1 2 (.lit [.b] [.bool false])])
 (.seq (.rg [o1 3 (.copy 0),
   o1 4 (.len 3),
   o1 5 (.data (.bin .gtr) [.t 4, .c (.int .i64 (1048576))]),
   o1 2 (.copy 5)])
 .ret))
def s20 : Sig := ⟨[.rd false [.sl (.own none) [.d]]], (.one false [.d])⟩
noncomputable def E20 : TEnv := envOf []
noncomputable def f20 (n : Nat) : List (Int) → Option ((Bool) × (Unit)) := runFn n E20 c20 [[.sl [.i .u8]]] [.b] [] [2] .no
noncomputable def g20 : List (Int) → Option ((Bool) × (Unit)) := f20 BIG
noncomputable def p20 : TSp := ⟨s20, [[.sl [.i .u8]]], [.b], [], Ou.j .no, g20⟩
theorem k20 : chkW PG E20 20 s20 (c20.ht 6) .no = some (c20.wc E20, [2]) := by kernel_rfl
theorem ok20 : p20.Ok PG 20 := mkOk (env_nil PG) k20 (by kernel_rfl)
theorem e20 (n : Nat) (a0 : List (Int)) : f20 n a0 =
  some (decide ((1048576 : Int) < (a0.length : Int)), ()) := by kernel_rfl
/- spec.l01New -/
def c86 : TC :=
 (.seq (.rg [o1 2 (.nl)])
 (.seq (.rg [o1 5 (.copy 0),
   o1 6 (.len 5),
   o1 7 (.data (.bin .add) [.c (.int .i64 (13501)), .t 6]),
   o1 3 (.copy 7)])
 (.seq (.join [⟨3, [.i .i64], false⟩] 268435224 none (.seq (.rg [o1 4 (.lit [.i .i64] [.int .i64 (0)])])
 (.block 0 (.loop [⟨3, [.i .i64], false⟩, ⟨4, [.i .i64], false⟩] 268435224
  (.seq (.seq (.join [⟨15, [.b], false⟩] 65280 none (.rg [o1 8 (.copy 4),
    o1 9 (.copy 0),
    o1 10 (.len 9),
    o1 11 (.data (.bin .lss) [.t 8, .t 10]),
    o1 12 (.copy 11),
    ⟨false, [], [], .det 1 (.copy 4), [13], (some 13), some (4, true)⟩,
    ⟨false, [], [], .det 1 (.data (.bin .lss) [.t 13, .c (.int .i64 (4000))]), [14], (some 14), some (4, true)⟩,
    ⟨false, [], [], .pick 12 (.t 14) (.c (.bool false)), [15], (some 15), none⟩]))
  (.cond (.t 15)
   .skip
   (.exit 0)))
  (.seq (.block 1 (.rg [o1 18 (.copy 3),
    o1 19 (.data (.bin .mul) [.t 18, .c (.int .i64 (131))]),
    o1 20 (.copy 0),
    o1 21 (.copy 4),
    o1 22 (.index 20 (.t 21)),
    o1 23 (.load 20 [(0, 1)] 0 (.t 22) 1 false),
    o1 24 (.data (.conv .i64) [.t 23]),
    o1 25 (.data (.bin .add) [.t 19, .t 24]),
    o1 26 (.data (.bin .add) [.t 25, .c (.int .i64 (7))]),
    o1 27 (.data (.bin .and) [.t 26, .c (.int .i64 (1073741823))]),
    o1 3 (.copy 27)]))
  (.rg [o1 16 (.copy 4),
    o1 17 (.data (.bin .add) [.t 16, .c (.int .i64 (1))]),
    o1 4 (.copy 17)])))))))
 (.seq (.rg [o1 28 (.copy 0),
   o1 29 (.copy 3),
   o1 30 (.build [.sl [.i .u8], .i .i64, .i .i64] [(0, .t 28), (2, .t 29)]),
   o1 31 (.a (.t 30)),
   ⟨true, [], [], .det 2 (.copy 31), [2, 31], (some 2), none⟩])
 .ret))))
def s86 : Sig := ⟨[.rd false [.sl (.own none) [.d]]], (.bx [.sl (.ro [0]) [.d], .d, .d])⟩
noncomputable def E86 : TEnv := envOf []
noncomputable def f86 (n : Nat) : List (Int) → Option ((List (Int) × Int × Int) × (Unit)) := runFn n E86 c86 [[.sl [.i .u8]]] [.sl [.i .u8], .i .i64, .i .i64] [] [2] .no
noncomputable def g86 : List (Int) → Option ((List (Int) × Int × Int) × (Unit)) := f86 BIG
noncomputable def p86 : TSp := ⟨s86, [[.sl [.i .u8]]], [.sl [.i .u8], .i .i64, .i .i64], [], Ou.j .no, g86⟩
theorem k86 : chkW PG E86 86 s86 (c86.ht 32) .no = some (c86.wc E86, [2]) := by kernel_rfl
theorem ok86 : p86.Ok PG 86 := mkOk (env_nil PG) k86 (by kernel_rfl)
theorem e86 (n : Nat) (a0 : List (Int)) : f86 n a0 =
  Option.bind (loopT n (fun (self1 : Int × Int → Option (Int)) (x0 : Int × Int) =>
    Option.bind (bif decide (x0.2 < (a0.length : Int)) then
      some (decide (x0.2 < (4000 : Int)))
     else some false : Option (Bool)) fun x2 =>
    bif x2 then
     bnd a0.length x0.2 fun n3 =>
     Option.bind a0[n3]? fun y4 =>
     self1 (bits .and .i64 (IntKind.wrap .i64 ((IntKind.wrap .i64 ((IntKind.wrap .i64 (x0.1 * (131 : Int))) + (IntKind.wrap .i64 (y4)))) + (7 : Int))) (1073741823 : Int), IntKind.wrap .i64 (x0.2 + (1 : Int)))
    else some x0.1) (IntKind.wrap .i64 ((13501 : Int) + (a0.length : Int)), (0 : Int)) : Option (Int)) fun x5 =>
  some ((a0, (0 : Int), x5), ()) := by kernel_rfl
/- spec.l01Byte -/
def c120 : TC :=
 (.seq (.rg [o1 2 (.lit [.i .i64] [.int .i64 (0)])])
 (.seq (.rg [o1 4 (.p0),
   o1 5 (.p0),
   o1 6 (.same 5),
   o1 7 (.idx (.t 6)),
   o1 8 (.load 0 [] 2 (.t 7) 1 false),
   o1 9 (.data (.bin .mul) [.t 8, .c (.int .i64 (6364136223846793005))]),
   o1 10 (.data (.bin .add) [.t 9, .c (.int .i64 (1442695040888963407))]),
   o1 11 (.same 4),
   o1 12 (.idx (.t 11)),
   ⟨false, [], [], .det 1 (.store 0 [] 2 (.t 12) (.t 10)), [0], none, none⟩])
 (.seq (.rg [o1 13 (.p0),
   o1 14 (.same 13),
   o1 15 (.idx (.t 14)),
   o1 16 (.load 0 [] 2 (.t 15) 1 false),
   o1 17 (.data (.bin .shr) [.t 16, .c (.int .u64 (33))]),
   o1 18 (.p0),
   o1 19 (.same 18),
   o1 20 (.idx (.t 19)),
   o1 21 (.load 0 [] 2 (.t 20) 1 false),
   o1 22 (.data (.bin .shr) [.t 21, .c (.int .u64 (45))]),
   o1 23 (.data (.bin .xor) [.t 17, .t 22]),
   o1 24 (.data (.bin .and) [.t 23, .c (.int .i64 (255))]),
   o1 3 (.copy 24)])
 (.seq (.join [⟨3, [.i .i64], false⟩, ⟨0, [.sl [.i .u8], .i .i64, .i .i64], false⟩] 144115188042301449 none (.seq (.rg [o1 25 (.p0),
   o1 26 (.same 25),
   o1 27 (.idx (.t 26)),
   o1 28 (.load 0 [] 1 (.t 27) 1 false),
   o1 29 (.p0),
   o1 30 (.same 29),
   o1 31 (.idx (.t 30)),
   o1 32 (.load 0 [] 0 (.t 31) 1 false),
   o1 33 (.len 32),
   o1 34 (.data (.bin .lss) [.t 28, .t 33])])
 (.cond (.t 34)
  (.seq (.rg [o1 35 (.copy 3),
    o1 36 (.p0),
    o1 37 (.same 36),
    o1 38 (.idx (.t 37)),
    o1 39 (.load 0 [] 0 (.t 38) 1 false),
    o1 40 (.p0),
    o1 41 (.same 40),
    o1 42 (.idx (.t 41)),
    o1 43 (.load 0 [] 1 (.t 42) 1 false),
    o1 44 (.index 39 (.t 43)),
    o1 45 (.load 39 [(0, 1)] 0 (.t 44) 1 false),
    o1 46 (.data (.conv .i64) [.t 45]),
    o1 47 (.data (.bin .add) [.t 35, .t 46]),
    o1 48 (.data (.bin .and) [.t 47, .c (.int .i64 (255))]),
    o1 3 (.copy 48)])
  (.rg [o1 49 (.p0),
    o1 50 (.p0),
    o1 51 (.same 50),
    o1 52 (.idx (.t 51)),
    o1 53 (.load 0 [] 1 (.t 52) 1 false),
    o1 54 (.data (.bin .add) [.t 53, .c (.int .i64 (1))]),
    o1 55 (.same 49),
    o1 56 (.idx (.t 55)),
    ⟨false, [], [], .det 1 (.store 0 [] 1 (.t 56) (.t 54)), [0], none, none⟩]))
  .skip)))
 (.seq (.rg [o1 57 (.copy 3),
   o1 2 (.copy 57)])
 .ret)))))
def s120 : Sig := ⟨[.mp [.sl (.ro []) [.d], .d, .d]], (.one false [.d])⟩
noncomputable def E120 : TEnv := envOf []
noncomputable def f120 (n : Nat) : (List (Int) × Int × Int) → Option ((Int) × (List (Int) × Int × Int)) := runFn n E120 c120 [[.sl [.i .u8], .i .i64, .i .i64]] [.i .i64] [.sl [.i .u8], .i .i64, .i .i64] [2] (.mp 0)
noncomputable def g120 : (List (Int) × Int × Int) → Option ((Int) × (List (Int) × Int × Int)) := f120 BIG
noncomputable def p120 : TSp := ⟨s120, [[.sl [.i .u8], .i .i64, .i .i64]], [.i .i64], [.sl [.i .u8], .i .i64, .i .i64], Ou.j (.mp 0), g120⟩
theorem k120 : chkW PG E120 120 s120 (c120.ht 58) (.mp 0) = some (c120.wc E120, [2]) := by kernel_rfl
theorem ok120 : p120.Ok PG 120 := mkOk (env_nil PG) k120 (by kernel_rfl)
theorem e120 (n : Nat) (a0 : List (Int) × Int × Int) : f120 n a0 =
  bif decide ((33 : Int) < 0) then
   none
  else bif decide ((45 : Int) < 0) then
   none
  else Option.bind (bif decide (a0.2.1 < (a0.1.length : Int)) then
    bnd a0.1.length a0.2.1 fun n0 =>
    Option.bind a0.1[n0]? fun y1 =>
    some (bits .and .i64 (IntKind.wrap .i64 ((bits .and .i64 (bits .xor .i64 (Int.fdiv (IntKind.wrap .i64 ((IntKind.wrap .i64 (a0.2.2 * (6364136223846793005 : Int))) + (1442695040888963407 : Int))) (2 ^ (Nat.min (Int.toNat (33 : Int)) (IntKind.bits .i64)))) (Int.fdiv (IntKind.wrap .i64 ((IntKind.wrap .i64 (a0.2.2 * (6364136223846793005 : Int))) + (1442695040888963407 : Int))) (2 ^ (Nat.min (Int.toNat (45 : Int)) (IntKind.bits .i64))))) (255 : Int)) + (IntKind.wrap .i64 (y1)))) (255 : Int), (a0.1, IntKind.wrap .i64 (a0.2.1 + (1 : Int)), IntKind.wrap .i64 ((IntKind.wrap .i64 (a0.2.2 * (6364136223846793005 : Int))) + (1442695040888963407 : Int))))
   else some (bits .and .i64 (bits .xor .i64 (Int.fdiv (IntKind.wrap .i64 ((IntKind.wrap .i64 (a0.2.2 * (6364136223846793005 : Int))) + (1442695040888963407 : Int))) (2 ^ (Nat.min (Int.toNat (33 : Int)) (IntKind.bits .i64)))) (Int.fdiv (IntKind.wrap .i64 ((IntKind.wrap .i64 (a0.2.2 * (6364136223846793005 : Int))) + (1442695040888963407 : Int))) (2 ^ (Nat.min (Int.toNat (45 : Int)) (IntKind.bits .i64))))) (255 : Int), (a0.1, a0.2.1, IntKind.wrap .i64 ((IntKind.wrap .i64 (a0.2.2 * (6364136223846793005 : Int))) + (1442695040888963407 : Int)))) : Option (Int × (List (Int) × Int × Int))) fun x2 =>
  some (x2.1, x2.2) := by kernel_rfl
/- spec.l01Below -/
def c88 : TC :=
 (.seq (.rg [o1 4 (.lit [.i .i64] [.int .i64 (0)])])
 (.seq (.seq (.rg [o1 9 (.copy 1),
   o1 10 (.data (.bin .leq) [.t 9, .c (.int .i64 (0))])])
 (.cond (.t 10)
  (.seq (.rg [o1 4 (.lit [.i .i64] [.int .i64 (0)])])
  .ret)
  .skip))
 (.seq (.seq (.rg [o1 11 (.copy 1),
   o1 12 (.data (.bin .leq) [.t 11, .c (.int .i64 (256))])])
 (.cond (.t 12)
  (.seq (.rg [o1 13 (.p0),
    ⟨false, [], [], .call 2 120 [.t 0] (.mp 0), [14, 0], (some 14), none⟩,
    o1 15 (.copy 1),
    o1 16 (.data (.bin .rem) [.t 14, .t 15]),
    o1 4 (.copy 16)])
  .ret)
  .skip))
 (.seq (.rg [o1 17 (.p0),
   ⟨false, [], [], .call 2 120 [.t 0] (.mp 0), [18, 0], (some 18), none⟩,
   o1 5 (.copy 18)])
 (.seq (.rg [o1 19 (.p0),
   ⟨false, [], [], .call 2 120 [.t 0] (.mp 0), [20, 0], (some 20), none⟩,
   o1 6 (.copy 20)])
 (.seq (.rg [o1 21 (.p0),
   ⟨false, [], [], .call 2 120 [.t 0] (.mp 0), [22, 0], (some 22), none⟩,
   o1 7 (.copy 22)])
 (.seq (.rg [o1 23 (.p0),
   ⟨false, [], [], .call 2 120 [.t 0] (.mp 0), [24, 0], (some 24), none⟩,
   o1 8 (.copy 24)])
 (.seq (.rg [o1 25 (.copy 5),
   o1 26 (.data (.bin .mul) [.t 25, .c (.int .i64 (16777216))]),
   o1 27 (.copy 6),
   o1 28 (.data (.bin .mul) [.t 27, .c (.int .i64 (65536))]),
   o1 29 (.data (.bin .add) [.t 26, .t 28]),
   o1 30 (.copy 7),
   o1 31 (.data (.bin .mul) [.t 30, .c (.int .i64 (256))]),
   o1 32 (.data (.bin .add) [.t 29, .t 31]),
   o1 33 (.copy 8),
   o1 34 (.data (.bin .add) [.t 32, .t 33]),
   o1 35 (.copy 1),
   o1 36 (.data (.bin .rem) [.t 34, .t 35]),
   o1 4 (.copy 36)])
 .ret))))))))
def s88 : Sig := ⟨[.mp [.sl (.ro []) [.d], .d, .d], .rd false [.d]], (.one false [.d])⟩
noncomputable def E88 : TEnv := envOf [(120, p120)]
noncomputable def f88 (n : Nat) : (List (Int) × Int × Int) × Int → Option ((Int) × (List (Int) × Int × Int)) := runFn n E88 c88 [[.sl [.i .u8], .i .i64, .i .i64], [.i .i64]] [.i .i64] [.sl [.i .u8], .i .i64, .i .i64] [4] (.mp 0)
noncomputable def g88 : (List (Int) × Int × Int) × Int → Option ((Int) × (List (Int) × Int × Int)) := f88 BIG
noncomputable def p88 : TSp := ⟨s88, [[.sl [.i .u8], .i .i64, .i .i64], [.i .i64]], [.i .i64], [.sl [.i .u8], .i .i64, .i .i64], Ou.j (.mp 0), g88⟩
theorem k88 : chkW PG E88 88 s88 (c88.ht 37) (.mp 0) = some (c88.wc E88, [4]) := by kernel_rfl
theorem ok88 : p88.Ok PG 88 := mkOk (env_cons ok120 (env_nil PG)) k88 (by kernel_rfl)
theorem e88 (n : Nat) (a0 : List (Int) × Int × Int) (a1 : Int) : f88 n (a0, a1) =
  bif decide (a1 ≤ (0 : Int)) then
   some ((0 : Int), a0)
  else bif decide (a1 ≤ (256 : Int)) then
   Option.bind (g120 a0) fun r0 =>
   bif decide (a1 = 0) then
    none
   else some (Int.tmod r0.1 a1, r0.2)
  else Option.bind (g120 a0) fun r1 =>
  Option.bind (g120 r1.2) fun r2 =>
  Option.bind (g120 r2.2) fun r3 =>
  Option.bind (g120 r3.2) fun r4 =>
  bif decide (a1 = 0) then
   none
  else some (Int.tmod (IntKind.wrap .i64 ((IntKind.wrap .i64 ((IntKind.wrap .i64 ((IntKind.wrap .i64 (r1.1 * (16777216 : Int))) + (IntKind.wrap .i64 (r2.1 * (65536 : Int))))) + (IntKind.wrap .i64 (r3.1 * (256 : Int))))) + r4.1)) a1, r4.2) := by kernel_rfl
/- spec.l05Edge -/
def c89 : TC :=
 (.seq (.rg [⟨false, [], [], .det 2 (.a (.c [.i .i64, .i .i64] [.int .i64 (0), .int .i64 (0)])), [4, 1000000001], (some 4), none⟩])
 (.seq (.rg [o1 7 (.p0),
   o1 8 (.copy 1),
   ⟨false, [], [], .call 2 88 [.t 0, .t 8] (.mp 0), [9, 0], (some 9), none⟩,
   o1 5 (.copy 9)])
 (.seq (.rg [o1 10 (.p0),
   o1 11 (.copy 1),
   ⟨false, [], [], .call 2 88 [.t 0, .t 11] (.mp 0), [12, 0], (some 12), none⟩,
   o1 6 (.copy 12)])
 (.seq (.join [⟨6, [.i .i64], false⟩] 1040448 none (.seq (.rg [o1 13 (.copy 5),
   o1 14 (.copy 6),
   o1 15 (.data (.bin .eql) [.t 13, .t 14])])
 (.cond (.t 15)
  (.rg [o1 16 (.copy 5),
    o1 17 (.data (.bin .add) [.t 16, .c (.int .i64 (1))]),
    o1 18 (.copy 1),
    o1 19 (.data (.bin .rem) [.t 17, .t 18]),
    o1 6 (.copy 19)])
  .skip)))
 (.seq (.seq (.rg [o1 20 (.copy 5),
   o1 21 (.copy 6),
   o1 22 (.data (.bin .gtr) [.t 20, .t 21])])
 (.cond (.t 22)
  (.seq (.rg [o1 23 (.copy 6),
    o1 24 (.copy 5),
    o1 25 (.build [.i .i64, .i .i64] [(0, .t 23), (1, .t 24)]),
    ⟨false, [], [], .det 1 (.store 4 [] 0 .nil (.t 25)), [4], none, none⟩])
  .ret)
  .skip))
 (.seq (.rg [o1 26 (.copy 5),
   o1 27 (.copy 6),
   o1 28 (.build [.i .i64, .i .i64] [(0, .t 26), (1, .t 27)]),
   ⟨false, [], [], .det 1 (.store 4 [] 0 .nil (.t 28)), [4], none, none⟩])
 .ret))))))
def s89 : Sig := ⟨[.mp [.sl (.ro []) [.d], .d, .d], .rd false [.d]], (.one true [.d, .d])⟩
noncomputable def E89 : TEnv := envOf [(88, p88)]
noncomputable def f89 (n : Nat) : (List (Int) × Int × Int) × Int → Option ((Int × Int) × (List (Int) × Int × Int)) := runFn n E89 c89 [[.sl [.i .u8], .i .i64, .i .i64], [.i .i64]] [.i .i64, .i .i64] [.sl [.i .u8], .i .i64, .i .i64] [4] (.mp 0)
noncomputable def g89 : (List (Int) × Int × Int) × Int → Option ((Int × Int) × (List (Int) × Int × Int)) := f89 BIG
noncomputable def p89 : TSp := ⟨s89, [[.sl [.i .u8], .i .i64, .i .i64], [.i .i64]], [.i .i64, .i .i64], [.sl [.i .u8], .i .i64, .i .i64], Ou.j (.mp 0), g89⟩
theorem k89 : chkW PG E89 89 s89 (c89.ht 29) (.mp 0) = some (c89.wc E89, [4]) := by kernel_rfl
theorem ok89 : p89.Ok PG 89 := mkOk (env_cons ok88 (env_nil PG)) k89 (by kernel_rfl)
theorem e89 (n : Nat) (a0 : List (Int) × Int × Int) (a1 : Int) : f89 n (a0, a1) =
  Option.bind (g88 (a0, a1)) fun r0 =>
  Option.bind (g88 (r0.2, a1)) fun r1 =>
  Option.bind (bif decide (r0.1 = r1.1) then
    bif decide (a1 = 0) then
     none
    else some (Int.tmod (IntKind.wrap .i64 (r0.1 + (1 : Int))) a1)
   else some r1.1 : Option (Int)) fun x2 =>
  bif decide (x2 < r0.1) then
   some ((x2, r0.1), r1.2)
  else some ((r0.1, x2), r1.2) := by kernel_rfl
/- spec.HasEdge -/
def c72 : TC :=
 (.seq (.rg [o1 2 (.a (.t 0)),
   o1 3 (.a (.t 1)),
   o1 4 (.lit [.b] [.bool false])])
 (.seq (.rg [o1 5 (.idx .nil),
   o1 6 (.load 2 [] 1 (.t 5) 1 false),
   o1 7 (.load 3 [] 0 .nil 2 false),
   ⟨false, [], [], .call 1 108 [.t 6, .t 7] .no, [8], (some 8), none⟩,
   o1 4 (.copy 8)])
 .ret))
def s72 : Sig := ⟨[.rd true [.d, .sl (.own none) [.d, .d]], .rd true [.d, .d]], (.one false [.d])⟩
noncomputable def E72 : TEnv := envOf [(108, p108)]
noncomputable def f72 (n : Nat) : (Int × List (Int × Int)) × (Int × Int) → Option ((Bool) × (Unit)) := runFn n E72 c72 [[.i .i64, .sl [.i .i64, .i .i64]], [.i .i64, .i .i64]] [.b] [] [4] .no
noncomputable def g72 : (Int × List (Int × Int)) × (Int × Int) → Option ((Bool) × (Unit)) := f72 BIG
noncomputable def p72 : TSp := ⟨s72, [[.i .i64, .sl [.i .i64, .i .i64]], [.i .i64, .i .i64]], [.b], [], Ou.j .no, g72⟩
theorem k72 : chkW PG E72 72 s72 (c72.ht 9) .no = some (c72.wc E72, [4]) := by kernel_rfl
theorem ok72 : p72.Ok PG 72 := mkOk (env_cons ok108 (env_nil PG)) k72 (by kernel_rfl)
theorem e72 (n : Nat) (a0 : Int × List (Int × Int)) (a1 : Int × Int) : f72 n (a0, a1) =
  Option.bind (g108 (a0.2, a1)) fun r0 =>
  some (r0.1, ()) := by kernel_rfl
/- spec.l05Graph -/
def c96 : TC :=
 (.seq (.rg [⟨false, [], [], .det 2 (.a (.c [.i .i64, .sl [.i .i64, .i .i64]] [.int .i64 (0), .slice none 0 0])), [2, 1000000001], (some 2), none⟩])
 (.seq (.rg [o1 6 (.p0),
   ⟨false, [], [], .call 2 88 [.t 0, .c [.i .i64] [.int .i64 (11)]] (.mp 0), [7, 0], (some 7), none⟩,
   o1 8 (.data (.bin .add) [.c (.int .i64 (2)), .t 7]),
   o1 9 (.build [.i .i64, .sl [.i .i64, .i .i64]] [(0, .t 8)]),
   ⟨false, [], [], .det 2 (.a (.c [.i .i64, .sl [.i .i64, .i .i64]] [.int .i64 (0), .slice none 0 0])), [3, 1000000001], (some 3), none⟩,
   ⟨false, [], [], .det 2 (.store 3 [] 0 .nil (.t 9)), [3, 9], none, none⟩])
 (.seq (.join [⟨0, [.sl [.i .u8], .i .i64, .i .i64], false⟩, ⟨3, [.i .i64, .sl [.i .i64, .i .i64]], false⟩] 536869945 none (.seq (.rg [o1 4 (.lit [.i .i64] [.int .i64 (0)])])
 (.block 0 (.loop [⟨0, [.sl [.i .u8], .i .i64, .i .i64], false⟩, ⟨3, [.i .i64, .sl [.i .i64, .i .i64]], false⟩, ⟨4, [.i .i64], false⟩] 536869945
  (.seq (.seq (.rg [o1 10 (.copy 4),
    o1 11 (.p0),
    ⟨false, [], [], .call 2 88 [.t 0, .c [.i .i64] [.int .i64 (16)]] (.mp 0), [12, 0], (some 12), none⟩,
    o1 13 (.data (.bin .lss) [.t 10, .t 12])])
  (.cond (.t 13)
   .skip
   (.exit 0)))
  (.seq (.join [⟨0, [.sl [.i .u8], .i .i64, .i .i64], false⟩, ⟨3, [.i .i64, .sl [.i .i64, .i .i64]], false⟩] 536805417 none (.block 1 (.seq (.rg [o1 16 (.p0),
    o1 17 (.idx .nil),
    o1 18 (.load 3 [] 0 (.t 17) 1 false),
    ⟨false, [], [], .call 2 89 [.t 0, .t 18] (.mp 0), [19, 0], (some 19), none⟩,
    ⟨false, [], [], .det 2 (.a (.c [.i .i64, .i .i64] [.int .i64 (0), .int .i64 (0)])), [5, 1000000001], (some 5), none⟩,
    ⟨false, [], [], .det 1 (.store 5 [] 0 .nil (.t 19)), [5], none, none⟩])
  (.seq (.rg [o1 20 (.load 3 [] 0 .nil 2 true),
    o1 21 (.load 5 [] 0 .nil 2 false),
    ⟨false, [], [], .call 1 72 [.t 20, .t 21] .no, [22], (some 22), none⟩,
    o1 23 (.data .not [.t 22])])
  (.cond (.t 23)
   (.rg [o1 24 (.idx .nil),
     o1 25 (.load 3 [] 1 (.t 24) 1 true),
     o1 26 (.load 5 [] 0 .nil 2 false),
     ⟨false, [], [], .call 1 109 [.t 25, .t 26] .no, [27], (some 27), none⟩,
     o1 28 (.idx .nil),
     ⟨false, [], [], .det 2 (.store 3 [] 1 (.t 28) (.t 27)), [3, 27, 20, 25], none, none⟩])
   .skip)))))
  (.rg [o1 14 (.copy 4),
    o1 15 (.data (.bin .add) [.t 14, .c (.int .i64 (1))]),
    o1 4 (.copy 15)])))))))
 (.seq (.rg [o1 29 (.load 3 [] 0 .nil 2 true),
   ⟨false, [29], [], .det 2 (.store 2 [] 0 .nil (.t 29)), [2, 29, 29, 3], none, none⟩])
 .ret))))
def s96 : Sig := ⟨[.mp [.sl (.ro []) [.d], .d, .d]], (.one true [.d, .sl (.own none) [.d, .d]])⟩
noncomputable def E96 : TEnv := envOf [(88, p88), (89, p89), (72, p72), (109, p109)]
noncomputable def f96 (n : Nat) : (List (Int) × Int × Int) → Option ((Int × List (Int × Int)) × (List (Int) × Int × Int)) := runFn n E96 c96 [[.sl [.i .u8], .i .i64, .i .i64]] [.i .i64, .sl [.i .i64, .i .i64]] [.sl [.i .u8], .i .i64, .i .i64] [2] (.mp 0)
noncomputable def g96 : (List (Int) × Int × Int) → Option ((Int × List (Int × Int)) × (List (Int) × Int × Int)) := f96 BIG
noncomputable def p96 : TSp := ⟨s96, [[.sl [.i .u8], .i .i64, .i .i64]], [.i .i64, .sl [.i .i64, .i .i64]], [.sl [.i .u8], .i .i64, .i .i64], Ou.j (.mp 0), g96⟩
theorem k96 : chkW PG E96 96 s96 (c96.ht 30) (.mp 0) = some (c96.wc E96, [2]) := by kernel_rfl
theorem ok96 : p96.Ok PG 96 := mkOk (env_cons ok88 (env_cons ok89 (env_cons ok72 (env_cons ok109 (env_nil PG))))) k96 (by kernel_rfl)
theorem e96 (n : Nat) (a0 : List (Int) × Int × Int) : f96 n a0 =
  Option.bind (g88 (a0, (11 : Int))) fun r0 =>
  Option.bind (loopT n (fun (self2 : (List (Int) × Int × Int) × (Int × List (Int × Int)) × Int → Option ((List (Int) × Int × Int) × (Int × List (Int × Int)))) (x1 : (List (Int) × Int × Int) × (Int × List (Int × Int)) × Int) =>
    Option.bind (g88 (x1.1, (16 : Int))) fun r3 =>
    bif decide (x1.2.2 < r3.1) then
     Option.bind (Option.bind (g89 (r3.2, x1.2.1.1)) fun r4 =>
      Option.bind (g72 (x1.2.1, (r4.1.1, r4.1.2))) fun r5 =>
      bif !r5.1 then
       Option.bind (g109 (x1.2.1.2, (r4.1.1, r4.1.2))) fun r6 =>
       some (r4.2, (x1.2.1.1, r6.1))
      else some (r4.2, x1.2.1) : Option ((List (Int) × Int × Int) × (Int × List (Int × Int)))) fun x7 =>
     self2 (x7.1, x7.2, IntKind.wrap .i64 (x1.2.2 + (1 : Int)))
    else some (r3.2, x1.2.1)) (r0.2, (IntKind.wrap .i64 ((2 : Int) + r0.1), []), (0 : Int)) : Option ((List (Int) × Int × Int) × (Int × List (Int × Int)))) fun x8 =>
  some ((x8.2.1, x8.2.2), x8.1) := by kernel_rfl
/- spec.DrawRightGraph -/
def c33 : TC :=
 (.seq (.rg [⟨false, [], [], .det 2 (.a (.c [.i .i64, .sl [.i .i64, .i .i64]] [.int .i64 (0), .slice none 0 0])), [2, 1000000001], (some 2), none⟩,
   ⟨false, [], [], .det 2 (.a (.c [.i .i64, .i .i64] [.int .i64 (0), .int .i64 (0)])), [3, 1000000001], (some 3), none⟩])
 (.seq (.rg [o1 6 (.copy 0),
   ⟨false, [], [], .call 1 86 [.t 6] .no, [7], (some 7), none⟩,
   o1 4 (.p0)])
 (.seq (.rg [o1 8 (.same 4),
   ⟨false, [], [], .call 2 96 [.t 7] (.mp 0), [9, 7], (some 9), none⟩,
   ⟨false, [], [], .det 2 (.a (.c [.i .i64, .sl [.i .i64, .i .i64]] [.int .i64 (0), .slice none 0 0])), [5, 1000000001], (some 5), none⟩,
   ⟨false, [], [], .det 2 (.store 5 [] 0 .nil (.t 9)), [5, 9], none, none⟩])
 (.seq (.rg [⟨false, [], [7], .det 1 (.load 5 [] 0 .nil 2 true), [10], (some 10), none⟩,
   o1 11 (.same 4),
   o1 12 (.idx .nil),
   o1 13 (.load 5 [] 0 (.t 12) 1 false),
   ⟨false, [], [], .call 2 89 [.t 7, .t 13] (.mp 0), [14, 7], (some 14), none⟩,
   ⟨false, [10], [], .det 2 (.store 2 [] 0 .nil (.t 10)), [2, 10, 10, 5], none, none⟩,
   ⟨false, [], [], .det 1 (.store 3 [] 0 .nil (.t 14)), [3], none, none⟩])
 .ret))))
def s33 : Sig := ⟨[.rd false [.sl (.own none) [.d]]], (.tup [(true, 2), (true, 2)] [.d, .sl (.own none) [.d, .d], .d, .d])⟩
noncomputable def E33 : TEnv := envOf [(86, p86), (96, p96), (89, p89)]
noncomputable def f33 (n : Nat) : List (Int) → Option ((Int × List (Int × Int) × Int × Int) × (Unit)) := runFn n E33 c33 [[.sl [.i .u8]]] [.i .i64, .sl [.i .i64, .i .i64], .i .i64, .i .i64] [] [2, 3] .no
noncomputable def g33 : List (Int) → Option ((Int × List (Int × Int) × Int × Int) × (Unit)) := f33 BIG
noncomputable def p33 : TSp := ⟨s33, [[.sl [.i .u8]]], [.i .i64, .sl [.i .i64, .i .i64], .i .i64, .i .i64], [], Ou.j .no, g33⟩
theorem k33 : chkW PG E33 33 s33 (c33.ht 15) .no = some (c33.wc E33, [2, 3]) := by kernel_rfl
theorem ok33 : p33.Ok PG 33 := mkOk (env_cons ok86 (env_cons ok96 (env_cons ok89 (env_nil PG)))) k33 (by kernel_rfl)
theorem e33 (n : Nat) (a0 : List (Int)) : f33 n a0 =
  Option.bind (g86 a0) fun r0 =>
  Option.bind (g96 r0.1) fun r1 =>
  Option.bind (g89 (r1.2, r1.1.1)) fun r2 =>
  some ((r1.1.1, r1.1.2, r2.1.1, r2.1.2), ()) := by kernel_rfl
/- impl.GraphOk -/
def c36 : TC :=
 (.seq (.rg [o1 1 (.a (.t 0)),
   o1 2 (.lit [.b] [.bool false])])
 (.seq (.join [⟨2, [.b], false⟩] 8188 none (.rg [o1 3 (.idx .nil),
   o1 4 (.load 1 [] 0 (.t 3) 1 false),
   ⟨false, [], [], .call 1 84 [.t 4, .c [.i .i64] [.int .i64 (1)], .c [.i .i64] [.int .i64 (12)]] .no, [5], (some 5), none⟩,
   o1 6 (.copy 5),
   ⟨false, [], [], .det 1 (.idx .nil), [7], (some 7), some (3, true)⟩,
   ⟨false, [], [], .det 1 (.load 1 [] 0 (.t 7) 1 false), [8], (some 8), some (3, true)⟩,
   ⟨false, [], [], .det 1 (.idx .nil), [9], (some 9), some (3, true)⟩,
   ⟨false, [], [], .det 1 (.load 1 [] 1 (.t 9) 1 false), [10], (some 10), some (3, true)⟩,
   ⟨false, [], [], .call 1 99 [.t 8, .t 10] .no, [11], (some 11), some (3, true)⟩,
   ⟨false, [], [], .pick 6 (.t 11) (.c (.bool false)), [12], (some 12), none⟩,
   o1 2 (.copy 12)]))
 .ret))
def s36 : Sig := ⟨[.rd true [.d, .sl (.own none) [.d, .d]]], (.one false [.d])⟩
noncomputable def E36 : TEnv := envOf [(84, p84), (99, p99)]
noncomputable def f36 (n : Nat) : (Int × List (Int × Int)) → Option ((Bool) × (Unit)) := runFn n E36 c36 [[.i .i64, .sl [.i .i64, .i .i64]]] [.b] [] [2] .no
noncomputable def g36 : (Int × List (Int × Int)) → Option ((Bool) × (Unit)) := f36 BIG
noncomputable def p36 : TSp := ⟨s36, [[.i .i64, .sl [.i .i64, .i .i64]]], [.b], [], Ou.j .no, g36⟩
theorem k36 : chkW PG E36 36 s36 (c36.ht 13) .no = some (c36.wc E36, [2]) := by kernel_rfl
theorem ok36 : p36.Ok PG 36 := mkOk (env_cons ok84 (env_cons ok99 (env_nil PG))) k36 (by kernel_rfl)
theorem e36 (n : Nat) (a0 : Int × List (Int × Int)) : f36 n a0 =
  Option.bind (Option.bind (g84 (a0.1, (1 : Int), (12 : Int))) fun r0 =>
   bif r0.1 then
    Option.bind (g99 (a0.1, a0.2)) fun r1 =>
    some r1.1
   else some false : Option (Bool)) fun x2 =>
  some (x2, ()) := by kernel_rfl
/- impl.HasEdge -/
def c35 : TC :=
 (.seq (.rg [o1 2 (.a (.t 0)),
   o1 3 (.a (.t 1)),
   o1 4 (.lit [.b] [.bool false])])
 (.seq (.rg [o1 5 (.idx .nil),
   o1 6 (.load 2 [] 1 (.t 5) 1 false),
   o1 7 (.load 3 [] 0 .nil 2 false),
   ⟨false, [], [], .call 1 98 [.t 6, .t 7] .no, [8], (some 8), none⟩,
   o1 4 (.copy 8)])
 .ret))
def s35 : Sig := ⟨[.rd true [.d, .sl (.own none) [.d, .d]], .rd true [.d, .d]], (.one false [.d])⟩
noncomputable def E35 : TEnv := envOf [(98, p98)]
noncomputable def f35 (n : Nat) : (Int × List (Int × Int)) × (Int × Int) → Option ((Bool) × (Unit)) := runFn n E35 c35 [[.i .i64, .sl [.i .i64, .i .i64]], [.i .i64, .i .i64]] [.b] [] [4] .no
noncomputable def g35 : (Int × List (Int × Int)) × (Int × Int) → Option ((Bool) × (Unit)) := f35 BIG
noncomputable def p35 : TSp := ⟨s35, [[.i .i64, .sl [.i .i64, .i .i64]], [.i .i64, .i .i64]], [.b], [], Ou.j .no, g35⟩
theorem k35 : chkW PG E35 35 s35 (c35.ht 9) .no = some (c35.wc E35, [4]) := by kernel_rfl
theorem ok35 : p35.Ok PG 35 := mkOk (env_cons ok98 (env_nil PG)) k35 (by kernel_rfl)
theorem e35 (n : Nat) (a0 : Int × List (Int × Int)) (a1 : Int × Int) : f35 n (a0, a1) =
  Option.bind (g98 (a0.2, a1)) fun r0 =>
  some (r0.1, ()) := by kernel_rfl
/- impl.AddEdge -/
def c34 : TC :=
 (.seq (.rg [o1 2 (.a (.t 0)),
   o1 3 (.a (.t 1)),
   ⟨false, [], [], .det 2 (.a (.c [.i .i64, .sl [.i .i64, .i .i64]] [.int .i64 (0), .slice none 0 0])), [4, 1000000001], (some 4), none⟩,
   o1 5 (.lit [.b] [.bool false])])
 (.seq (.seq (.join [⟨20, [.b], false⟩] 2097088 none (.rg [o1 6 (.load 2 [] 0 .nil 2 false),
   ⟨false, [], [], .call 1 36 [.t 6] .no, [7], (some 7), none⟩,
   o1 8 (.data .not [.t 7]),
   o1 9 (.copy 8),
   ⟨false, [], [], .det 1 (.idx .nil), [10], (some 10), some (3, false)⟩,
   ⟨false, [], [], .det 1 (.load 2 [] 0 (.t 10) 1 false), [11], (some 11), some (3, false)⟩,
   ⟨false, [], [], .det 1 (.load 3 [] 0 .nil 2 false), [12], (some 12), some (3, false)⟩,
   ⟨false, [], [], .call 1 37 [.t 11, .t 12] .no, [13], (some 13), some (3, false)⟩,
   ⟨false, [], [], .det 1 (.data .not [.t 13]), [14], (some 14), some (3, false)⟩,
   ⟨false, [], [], .pick 9 (.c (.bool true)) (.t 14), [15], (some 15), none⟩,
   o1 16 (.copy 15),
   ⟨false, [], [], .det 1 (.load 2 [] 0 .nil 2 false), [17], (some 17), some (10, false)⟩,
   ⟨false, [], [], .det 1 (.load 3 [] 0 .nil 2 false), [18], (some 18), some (10, false)⟩,
   ⟨false, [], [], .call 1 35 [.t 17, .t 18] .no, [19], (some 19), some (10, false)⟩,
   ⟨false, [], [], .pick 16 (.c (.bool true)) (.t 19), [20], (some 20), none⟩]))
 (.cond (.t 20)
  (.seq (.rg [o1 21 (.build [.i .i64, .sl [.i .i64, .i .i64]] []),
    ⟨false, [], [], .det 2 (.store 4 [] 0 .nil (.t 21)), [4, 21], none, none⟩,
    o1 5 (.lit [.b] [.bool false])])
  .ret)
  .skip))
 (.seq (.rg [o1 22 (.idx .nil),
   o1 23 (.load 2 [] 0 (.t 22) 1 false),
   o1 24 (.idx .nil),
   o1 25 (.load 2 [] 1 (.t 24) 1 false),
   o1 26 (.load 3 [] 0 .nil 2 false),
   ⟨false, [], [], .call 1 97 [.t 25, .t 26] .no, [27], (some 27), none⟩,
   ⟨false, [], [], .det 2 (.build [.i .i64, .sl [.i .i64, .i .i64]] [(0, .t 23), (1, .t 27)]), [28, 27], (some 28), none⟩,
   ⟨false, [], [], .det 2 (.store 4 [] 0 .nil (.t 28)), [4, 28], none, none⟩,
   o1 5 (.lit [.b] [.bool true])])
 .ret)))
def s34 : Sig := ⟨[.rd true [.d, .sl (.own none) [.d, .d]], .rd true [.d, .d]], (.tup [(true, 2), (false, 1)] [.d, .sl (.own none) [.d, .d], .d])⟩
noncomputable def E34 : TEnv := envOf [(36, p36), (37, p37), (35, p35), (97, p97)]
noncomputable def f34 (n : Nat) : (Int × List (Int × Int)) × (Int × Int) → Option ((Int × List (Int × Int) × Bool) × (Unit)) := runFn n E34 c34 [[.i .i64, .sl [.i .i64, .i .i64]], [.i .i64, .i .i64]] [.i .i64, .sl [.i .i64, .i .i64], .b] [] [4, 5] .no
noncomputable def g34 : (Int × List (Int × Int)) × (Int × Int) → Option ((Int × List (Int × Int) × Bool) × (Unit)) := f34 BIG
noncomputable def p34 : TSp := ⟨s34, [[.i .i64, .sl [.i .i64, .i .i64]], [.i .i64, .i .i64]], [.i .i64, .sl [.i .i64, .i .i64], .b], [], Ou.j .no, g34⟩
theorem k34 : chkW PG E34 34 s34 (c34.ht 29) .no = some (c34.wc E34, [4, 5]) := by kernel_rfl
theorem ok34 : p34.Ok PG 34 := mkOk (env_cons ok36 (env_cons ok37 (env_cons ok35 (env_cons ok97 (env_nil PG))))) k34 (by kernel_rfl)
theorem e34 (n : Nat) (a0 : Int × List (Int × Int)) (a1 : Int × Int) : f34 n (a0, a1) =
  Option.bind (Option.bind (g36 a0) fun r0 =>
   bif !r0.1 then
    some true
   else Option.bind (g37 (a0.1, a1)) fun r1 =>
   bif !r1.1 then
    some true
   else Option.bind (g35 (a0, a1)) fun r2 =>
   some r2.1 : Option (Bool)) fun x3 =>
  bif x3 then
   some (((0 : Int), [], false), ())
  else Option.bind (g97 (a0.2, a1)) fun r4 =>
  some ((a0.1, r4.1, true), ()) := by kernel_rfl
/- impl.withoutEdge -/
def c100 : TC :=
 (.seq (.rg [o1 3 (.a (.t 1)),
   o1 4 (.lit [.sl [.i .i64, .i .i64]] [.slice none 0 0])])
 (.seq (.rg [o1 5 (.lit [.sl [.i .i64, .i .i64]] [.slice none 0 0])])
 (.seq (.join [⟨5, [.sl [.i .i64, .i .i64]], false⟩] 4194208 none (.seq (.rg [o1 8 (.copy 0),
   o1 9 (.len 8),
   o1 10 (.lit [.i .i64] [.int .i64 (0)])])
 (.block 0 (.loop [⟨5, [.sl [.i .i64, .i .i64]], false⟩, ⟨10, [.i .i64], false⟩] 4193440
  (.seq (.rg [o1 11 (.data (.bin .lss) [.t 10, .t 9])])
  (.seq (.cond (.t 11)
   .skip
   (.exit 0))
  (.seq (.join [⟨5, [.sl [.i .i64, .i .i64]], false⟩] 2093216 none (.block 1 (.seq (.rg [o1 12 (.index 8 (.t 10)),
    o1 13 (.load 8 [(0, 2)] 0 (.t 12) 2 false),
    ⟨false, [], [], .det 2 (.a (.c [.i .i64, .i .i64] [.int .i64 (0), .int .i64 (0)])), [7, 1000000001], (some 7), none⟩,
    ⟨false, [], [], .det 1 (.store 7 [] 0 .nil (.t 13)), [7], none, none⟩])
  (.seq (.rg [o1 14 (.load 7 [] 0 .nil 2 false),
    o1 15 (.load 3 [] 0 .nil 2 false),
    o1 16 (.eqA [.i, .i] (.t 14) (.t 15) true)])
  (.cond (.t 16)
   (.rg [⟨false, [], [], .det 2 (.copy 5), [17, 5], (some 17), none⟩,
     o1 18 (.load 7 [] 0 .nil 2 false),
     o1 19 (.sli [.i .i64, .i .i64] [.t 18]),
     ⟨false, [], [], .det 2 (.app (some 17) 19), [20, 17], (some 20), none⟩,
     ⟨false, [], [], .det 2 (.copy 20), [5, 20], (some 5), none⟩])
   .skip)))))
  (.rg [o1 21 (.data (.bin .add) [.t 10, .c (.int .i64 (1))]),
    o1 10 (.copy 21)]))))))))
 (.seq (.rg [⟨false, [], [], .det 2 (.copy 5), [22, 5], (some 22), none⟩,
   ⟨false, [], [], .det 2 (.copy 22), [4, 22], (some 4), none⟩])
 .ret))))
def s100 : Sig := ⟨[.rd false [.sl (.own none) [.d, .d]], .rd true [.d, .d]], (.one false [.sl (.own none) [.d, .d]])⟩
noncomputable def E100 : TEnv := envOf []
noncomputable def f100 (n : Nat) : (List (Int × Int)) × (Int × Int) → Option ((List (Int × Int)) × (Unit)) := runFn n E100 c100 [[.sl [.i .i64, .i .i64]], [.i .i64, .i .i64]] [.sl [.i .i64, .i .i64]] [] [4] .no
noncomputable def g100 : (List (Int × Int)) × (Int × Int) → Option ((List (Int × Int)) × (Unit)) := f100 BIG
noncomputable def p100 : TSp := ⟨s100, [[.sl [.i .i64, .i .i64]], [.i .i64, .i .i64]], [.sl [.i .i64, .i .i64]], [], Ou.j .no, g100⟩
theorem k100 : chkW PG E100 100 s100 (c100.ht 23) .no = some (c100.wc E100, [4]) := by kernel_rfl
theorem ok100 : p100.Ok PG 100 := mkOk (env_nil PG) k100 (by kernel_rfl)
theorem e100 (n : Nat) (a0 : List (Int × Int)) (a1 : Int × Int) : f100 n (a0, a1) =
  Option.bind (loopT n (fun (self1 : (List (Int × Int)) × Int → Option ((List (Int × Int)))) (x0 : (List (Int × Int)) × Int) =>
    bif decide (x0.2 < (a0.length : Int)) then
     Option.bind (bnd a0.length x0.2 fun n2 =>
      Option.bind a0[n2]? fun y3 =>
      bif !(decide (y3.1 = a1.1) && (decide (y3.2 = a1.2) && true)) then
       bif decide (x0.1.length + ([(y3.1, y3.2)]).length ≤ 4294967296) then
        some (x0.1 ++ ([(y3.1, y3.2)]))
       else none
      else some x0.1 : Option ((List (Int × Int)))) fun x4 =>
     self1 (x4, IntKind.wrap .i64 (x0.2 + (1 : Int)))
    else some x0.1) ([], (0 : Int)) : Option ((List (Int × Int)))) fun x5 =>
  some (x5, ()) := by kernel_rfl
/- impl.TakeEdge -/
def c38 : TC :=
 (.seq (.rg [o1 2 (.a (.t 0)),
   o1 3 (.a (.t 1)),
   ⟨false, [], [], .det 2 (.a (.c [.i .i64, .sl [.i .i64, .i .i64]] [.int .i64 (0), .slice none 0 0])), [4, 1000000001], (some 4), none⟩,
   o1 5 (.lit [.b] [.bool false])])
 (.seq (.seq (.join [⟨14, [.b], false⟩] 32704 none (.rg [o1 6 (.load 2 [] 0 .nil 2 false),
   ⟨false, [], [], .call 1 36 [.t 6] .no, [7], (some 7), none⟩,
   o1 8 (.data .not [.t 7]),
   o1 9 (.copy 8),
   ⟨false, [], [], .det 1 (.load 2 [] 0 .nil 2 false), [10], (some 10), some (3, false)⟩,
   ⟨false, [], [], .det 1 (.load 3 [] 0 .nil 2 false), [11], (some 11), some (3, false)⟩,
   ⟨false, [], [], .call 1 35 [.t 10, .t 11] .no, [12], (some 12), some (3, false)⟩,
   ⟨false, [], [], .det 1 (.data .not [.t 12]), [13], (some 13), some (3, false)⟩,
   ⟨false, [], [], .pick 9 (.c (.bool true)) (.t 13), [14], (some 14), none⟩]))
 (.cond (.t 14)
  (.seq (.rg [o1 15 (.build [.i .i64, .sl [.i .i64, .i .i64]] []),
    ⟨false, [], [], .det 2 (.store 4 [] 0 .nil (.t 15)), [4, 15], none, none⟩,
    o1 5 (.lit [.b] [.bool false])])
  .ret)
  .skip))
 (.seq (.rg [o1 16 (.idx .nil),
   o1 17 (.load 2 [] 0 (.t 16) 1 false),
   o1 18 (.idx .nil),
   o1 19 (.load 2 [] 1 (.t 18) 1 false),
   o1 20 (.load 3 [] 0 .nil 2 false),
   ⟨false, [], [], .call 1 100 [.t 19, .t 20] .no, [21], (some 21), none⟩,
   ⟨false, [], [], .det 2 (.build [.i .i64, .sl [.i .i64, .i .i64]] [(0, .t 17), (1, .t 21)]), [22, 21], (some 22), none⟩,
   ⟨false, [], [], .det 2 (.store 4 [] 0 .nil (.t 22)), [4, 22], none, none⟩,
   o1 5 (.lit [.b] [.bool true])])
 .ret)))
def s38 : Sig := ⟨[.rd true [.d, .sl (.own none) [.d, .d]], .rd true [.d, .d]], (.tup [(true, 2), (false, 1)] [.d, .sl (.own none) [.d, .d], .d])⟩
noncomputable def E38 : TEnv := envOf [(36, p36), (35, p35), (100, p100)]
noncomputable def f38 (n : Nat) : (Int × List (Int × Int)) × (Int × Int) → Option ((Int × List (Int × Int) × Bool) × (Unit)) := runFn n E38 c38 [[.i .i64, .sl [.i .i64, .i .i64]], [.i .i64, .i .i64]] [.i .i64, .sl [.i .i64, .i .i64], .b] [] [4, 5] .no
noncomputable def g38 : (Int × List (Int × Int)) × (Int × Int) → Option ((Int × List (Int × Int) × Bool) × (Unit)) := f38 BIG
noncomputable def p38 : TSp := ⟨s38, [[.i .i64, .sl [.i .i64, .i .i64]], [.i .i64, .i .i64]], [.i .i64, .sl [.i .i64, .i .i64], .b], [], Ou.j .no, g38⟩
theorem k38 : chkW PG E38 38 s38 (c38.ht 23) .no = some (c38.wc E38, [4, 5]) := by kernel_rfl
theorem ok38 : p38.Ok PG 38 := mkOk (env_cons ok36 (env_cons ok35 (env_cons ok100 (env_nil PG)))) k38 (by kernel_rfl)
theorem e38 (n : Nat) (a0 : Int × List (Int × Int)) (a1 : Int × Int) : f38 n (a0, a1) =
  Option.bind (Option.bind (g36 a0) fun r0 =>
   bif !r0.1 then
    some true
   else Option.bind (g35 (a0, a1)) fun r1 =>
   some !r1.1 : Option (Bool)) fun x2 =>
  bif x2 then
   some (((0 : Int), [], false), ())
  else Option.bind (g100 (a0.2, a1)) fun r3 =>
  some ((a0.1, r3.1, true), ()) := by kernel_rfl
/- laws.sameEdges -/
def c24 : TC :=
 (.seq (.rg [o1 4 (.lit [.b] [.bool false])])
 (.seq (.seq (.rg [o1 6 (.copy 0),
   o1 7 (.len 6),
   o1 8 (.copy 1),
   o1 9 (.len 8),
   o1 10 (.data (.bin .neq) [.t 7, .t 9])])
 (.cond (.t 10)
  (.seq (.rg [o1 4 (.lit [.b] [.bool false])])
  .ret)
  .skip))
 (.seq (.join [] 67106864 (some [⟨4, [.b], false⟩]) (.seq (.rg [o1 5 (.lit [.i .i64] [.int .i64 (0)])])
 (.block 0 (.loop [⟨5, [.i .i64], false⟩] 67106864
  (.seq (.seq (.rg [o1 11 (.copy 5),
    o1 12 (.copy 0),
    o1 13 (.len 12),
    o1 14 (.data (.bin .lss) [.t 11, .t 13])])
  (.cond (.t 14)
   .skip
   (.exit 0)))
  (.seq (.block 1 (.seq (.rg [o1 17 (.copy 0),
    o1 18 (.copy 5),
    o1 19 (.index 17 (.t 18)),
    o1 20 (.load 17 [(0, 2)] 0 (.t 19) 2 false),
    o1 21 (.copy 1),
    o1 22 (.copy 5),
    o1 23 (.index 21 (.t 22)),
    o1 24 (.load 21 [(0, 2)] 0 (.t 23) 2 false),
    o1 25 (.eqA [.i, .i] (.t 20) (.t 24) true)])
  (.cond (.t 25)
   (.seq (.rg [o1 4 (.lit [.b] [.bool false])])
   .ret)
   .skip)))
  (.rg [o1 15 (.copy 5),
    o1 16 (.data (.bin .add) [.t 15, .c (.int .i64 (1))]),
    o1 5 (.copy 16)])))))))
 (.seq (.rg [o1 4 (.lit [.b] [.bool true])])
 .ret))))
def s24 : Sig := ⟨[.rd false [.sl (.own none) [.d, .d]], .rd false [.sl (.own none) [.d, .d]]], (.one false [.d])⟩
noncomputable def E24 : TEnv := envOf []
noncomputable def f24 (n : Nat) : (List (Int × Int)) × (List (Int × Int)) → Option ((Bool) × (Unit)) := runFn n E24 c24 [[.sl [.i .i64, .i .i64]], [.sl [.i .i64, .i .i64]]] [.b] [] [4] .no
noncomputable def g24 : (List (Int × Int)) × (List (Int × Int)) → Option ((Bool) × (Unit)) := f24 BIG
noncomputable def p24 : TSp := ⟨s24, [[.sl [.i .i64, .i .i64]], [.sl [.i .i64, .i .i64]]], [.b], [], Ou.j .no, g24⟩
theorem k24 : chkW PG E24 24 s24 (c24.ht 26) .no = some (c24.wc E24, [4]) := by kernel_rfl
theorem ok24 : p24.Ok PG 24 := mkOk (env_nil PG) k24 (by kernel_rfl)
theorem e24 (n : Nat) (a0 : List (Int × Int)) (a1 : List (Int × Int)) : f24 n (a0, a1) =
  bif !decide ((a0.length : Int) = (a1.length : Int)) then
   some (false, ())
  else Option.bind (loopT n (fun (self1 : Int → Option ((Unit) ⊕ (Bool))) (x0 : Int) =>
    bif decide (x0 < (a0.length : Int)) then
     bnd a0.length x0 fun n2 =>
     Option.bind a0[n2]? fun y3 =>
     bnd a1.length x0 fun n4 =>
     Option.bind a1[n4]? fun y5 =>
     bif !(decide (y3.1 = y5.1) && (decide (y3.2 = y5.2) && true)) then
      some (Sum.inr false)
     else self1 (IntKind.wrap .i64 (x0 + (1 : Int)))
    else some (Sum.inl ())) (0 : Int) : Option ((Unit) ⊕ (Bool))) fun y => match y with
  | .inl x6 =>
   some (true, ())
  | .inr x6 =>
   some (x6, ()) := by kernel_rfl
/- spec.GraphOk -/
def c39 : TC :=
 (.seq (.rg [o1 1 (.a (.t 0)),
   o1 2 (.lit [.b] [.bool false])])
 (.seq (.join [⟨2, [.b], false⟩] 8188 none (.rg [o1 3 (.idx .nil),
   o1 4 (.load 1 [] 0 (.t 3) 1 false),
   ⟨false, [], [], .call 1 82 [.t 4, .c [.i .i64] [.int .i64 (1)], .c [.i .i64] [.int .i64 (12)]] .no, [5], (some 5), none⟩,
   o1 6 (.copy 5),
   ⟨false, [], [], .det 1 (.idx .nil), [7], (some 7), some (3, true)⟩,
   ⟨false, [], [], .det 1 (.load 1 [] 0 (.t 7) 1 false), [8], (some 8), some (3, true)⟩,
   ⟨false, [], [], .det 1 (.idx .nil), [9], (some 9), some (3, true)⟩,
   ⟨false, [], [], .det 1 (.load 1 [] 1 (.t 9) 1 false), [10], (some 10), some (3, true)⟩,
   ⟨false, [], [], .call 1 101 [.t 8, .t 10] .no, [11], (some 11), some (3, true)⟩,
   ⟨false, [], [], .pick 6 (.t 11) (.c (.bool false)), [12], (some 12), none⟩,
   o1 2 (.copy 12)]))
 .ret))
def s39 : Sig := ⟨[.rd true [.d, .sl (.own none) [.d, .d]]], (.one false [.d])⟩
noncomputable def E39 : TEnv := envOf [(82, p82), (101, p101)]
noncomputable def f39 (n : Nat) : (Int × List (Int × Int)) → Option ((Bool) × (Unit)) := runFn n E39 c39 [[.i .i64, .sl [.i .i64, .i .i64]]] [.b] [] [2] .no
noncomputable def g39 : (Int × List (Int × Int)) → Option ((Bool) × (Unit)) := f39 BIG
noncomputable def p39 : TSp := ⟨s39, [[.i .i64, .sl [.i .i64, .i .i64]]], [.b], [], Ou.j .no, g39⟩
theorem k39 : chkW PG E39 39 s39 (c39.ht 13) .no = some (c39.wc E39, [2]) := by kernel_rfl
theorem ok39 : p39.Ok PG 39 := mkOk (env_cons ok82 (env_cons ok101 (env_nil PG))) k39 (by kernel_rfl)
theorem e39 (n : Nat) (a0 : Int × List (Int × Int)) : f39 n a0 =
  Option.bind (Option.bind (g82 (a0.1, (1 : Int), (12 : Int))) fun r0 =>
   bif r0.1 then
    Option.bind (g101 (a0.1, a0.2)) fun r1 =>
    some r1.1
   else some false : Option (Bool)) fun x2 =>
  some (x2, ()) := by kernel_rfl
/- laws.FnGraphs -/
def c6 : TC :=
 (.seq (.rg [o1 2 (.lit [.b] [.bool false])])
 (.seq (.seq (.rg [o1 18 (.copy 0),
   ⟨false, [], [], .call 1 20 [.t 18] .no, [19], (some 19), none⟩])
 (.cond (.t 19)
  (.seq (.rg [o1 2 (.lit [.b] [.bool true])])
  .ret)
  .skip))
 (.seq (.rg [o1 21 (.copy 0),
   ⟨false, [], [], .call 1 33 [.t 21] .no, [22], (some 22), none⟩,
   ⟨false, [], [], .det 2 (.copy 22), [20, 22], (some 20), none⟩,
   ⟨false, [], [], .det 2 (.ext 20 0 2), [23, 20], (some 23), none⟩,
   ⟨false, [], [], .det 2 (.ext 20 2 2), [24, 20], (some 24), none⟩,
   ⟨false, [], [], .det 2 (.a (.c [.i .i64, .sl [.i .i64, .i .i64]] [.int .i64 (0), .slice none 0 0])), [3, 1000000001], (some 3), none⟩,
   ⟨false, [], [], .det 2 (.a (.c [.i .i64, .i .i64] [.int .i64 (0), .int .i64 (0)])), [4, 1000000001], (some 4), none⟩,
   ⟨false, [], [], .det 2 (.store 3 [] 0 .nil (.t 23)), [3, 23], none, none⟩,
   ⟨false, [], [], .det 1 (.store 4 [] 0 .nil (.t 24)), [4], none, none⟩])
 (.seq (.rg [o1 26 (.load 3 [] 0 .nil 2 true),
   o1 27 (.load 4 [] 0 .nil 2 false),
   ⟨false, [], [], .call 1 34 [.t 26, .t 27] .no, [28], (some 28), none⟩,
   ⟨false, [], [], .det 2 (.copy 28), [25, 28], (some 25), none⟩,
   ⟨false, [], [], .det 2 (.ext 25 0 2), [29, 25], (some 29), none⟩,
   ⟨false, [], [], .det 2 (.ext 25 2 1), [30, 25], (some 30), none⟩,
   ⟨false, [], [], .det 2 (.a (.c [.i .i64, .sl [.i .i64, .i .i64]] [.int .i64 (0), .slice none 0 0])), [5, 1000000001], (some 5), none⟩,
   ⟨false, [], [], .det 2 (.store 5 [] 0 .nil (.t 29)), [5, 29], none, none⟩,
   o1 6 (.copy 30)])
 (.seq (.rg [o1 31 (.load 3 [] 0 .nil 2 true),
   o1 32 (.load 4 [] 0 .nil 2 false),
   ⟨false, [], [], .call 1 35 [.t 31, .t 32] .no, [33], (some 33), none⟩,
   o1 7 (.copy 33)])
 (.seq (.seq (.join [⟨48, [.b], false⟩] 562932773552128 none (.rg [o1 34 (.copy 6),
   o1 35 (.copy 7),
   o1 36 (.data (.beq false) [.t 34, .t 35]),
   o1 37 (.copy 36),
   ⟨false, [], [], .det 1 (.load 3 [] 0 .nil 2 true), [38], (some 38), some (3, false)⟩,
   ⟨false, [], [], .call 1 36 [.t 38] .no, [39], (some 39), some (3, false)⟩,
   ⟨false, [], [], .det 1 (.data .not [.t 39]), [40], (some 40), some (3, false)⟩,
   ⟨false, [], [], .pick 37 (.c (.bool true)) (.t 40), [41], (some 41), none⟩,
   o1 42 (.copy 41),
   ⟨false, [], [], .det 1 (.idx .nil), [43], (some 43), some (8, false)⟩,
   ⟨false, [], [], .det 1 (.load 3 [] 0 (.t 43) 1 false), [44], (some 44), some (8, false)⟩,
   ⟨false, [], [], .det 1 (.load 4 [] 0 .nil 2 false), [45], (some 45), some (8, false)⟩,
   ⟨false, [], [], .call 1 37 [.t 44, .t 45] .no, [46], (some 46), some (8, false)⟩,
   ⟨false, [], [], .det 1 (.data .not [.t 46]), [47], (some 47), some (8, false)⟩,
   ⟨false, [], [], .pick 42 (.c (.bool true)) (.t 47), [48], (some 48), none⟩]))
 (.cond (.t 48)
  (.seq (.rg [o1 2 (.lit [.b] [.bool false])])
  .ret)
  .skip))
 (.seq (.seq (.rg [o1 49 (.copy 7)])
 (.cond (.t 49)
  (.seq (.rg [o1 51 (.load 3 [] 0 .nil 2 true),
    o1 52 (.load 4 [] 0 .nil 2 false),
    ⟨false, [], [], .call 1 38 [.t 51, .t 52] .no, [53], (some 53), none⟩,
    ⟨false, [], [], .det 2 (.copy 53), [50, 53], (some 50), none⟩,
    ⟨false, [], [], .det 2 (.ext 50 0 2), [54, 50], (some 54), none⟩,
    ⟨false, [], [], .det 2 (.ext 50 2 1), [55, 50], (some 55), none⟩,
    ⟨false, [], [], .det 2 (.a (.c [.i .i64, .sl [.i .i64, .i .i64]] [.int .i64 (0), .slice none 0 0])), [8, 1000000001], (some 8), none⟩,
    ⟨false, [], [], .det 2 (.store 8 [] 0 .nil (.t 54)), [8, 54], none, none⟩,
    o1 9 (.copy 55)])
  (.seq (.rg [o1 57 (.load 8 [] 0 .nil 2 true),
    o1 58 (.load 4 [] 0 .nil 2 false),
    ⟨false, [], [], .call 1 34 [.t 57, .t 58] .no, [59], (some 59), none⟩,
    ⟨false, [], [], .det 2 (.copy 59), [56, 59], (some 56), none⟩,
    ⟨false, [], [], .det 2 (.ext 56 0 2), [60, 56], (some 60), none⟩,
    ⟨false, [], [], .det 2 (.ext 56 2 1), [61, 56], (some 61), none⟩,
    ⟨false, [], [], .det 2 (.a (.c [.i .i64, .sl [.i .i64, .i .i64]] [.int .i64 (0), .slice none 0 0])), [10, 1000000001], (some 10), none⟩,
    ⟨false, [], [], .det 2 (.store 10 [] 0 .nil (.t 60)), [10, 60], none, none⟩,
    o1 11 (.copy 61)])
  (.seq (.join [⟨2, [.b], false⟩] 604458298121296159965188 none (.rg [o1 62 (.copy 9),
    o1 63 (.copy 62),
    ⟨false, [], [], .det 1 (.copy 11), [64], (some 64), some (1, true)⟩,
    ⟨false, [], [], .pick 63 (.t 64) (.c (.bool false)), [65], (some 65), none⟩,
    o1 66 (.copy 65),
    ⟨false, [], [], .det 1 (.idx .nil), [67], (some 67), some (4, true)⟩,
    ⟨false, [], [], .det 1 (.load 10 [] 1 (.t 67) 1 true), [68], (some 68), some (4, true)⟩,
    ⟨false, [], [], .det 1 (.idx .nil), [69], (some 69), some (4, true)⟩,
    ⟨false, [], [], .det 1 (.load 3 [] 1 (.t 69) 1 true), [70], (some 70), some (4, true)⟩,
    ⟨false, [], [], .call 1 24 [.t 68, .t 70] .no, [71], (some 71), some (4, true)⟩,
    ⟨false, [], [], .pick 66 (.t 71) (.c (.bool false)), [72], (some 72), none⟩,
    o1 73 (.copy 72),
    ⟨false, [], [], .det 1 (.load 8 [] 0 .nil 2 true), [74], (some 74), some (11, true)⟩,
    ⟨false, [], [], .det 1 (.load 4 [] 0 .nil 2 false), [75], (some 75), some (11, true)⟩,
    ⟨false, [], [], .call 1 35 [.t 74, .t 75] .no, [76], (some 76), some (11, true)⟩,
    ⟨false, [], [], .det 1 (.data .not [.t 76]), [77], (some 77), some (11, true)⟩,
    ⟨false, [], [], .pick 73 (.t 77) (.c (.bool false)), [78], (some 78), none⟩,
    o1 2 (.copy 78)]))
  .ret)))
  .skip))
 (.seq (.rg [o1 80 (.load 5 [] 0 .nil 2 true),
   o1 81 (.load 4 [] 0 .nil 2 false),
   ⟨false, [], [], .call 1 38 [.t 80, .t 81] .no, [82], (some 82), none⟩,
   ⟨false, [], [], .det 2 (.copy 82), [79, 82], (some 79), none⟩,
   ⟨false, [], [], .det 2 (.ext 79 0 2), [83, 79], (some 83), none⟩,
   ⟨false, [], [], .det 2 (.ext 79 2 1), [84, 79], (some 84), none⟩,
   ⟨false, [], [], .det 2 (.a (.c [.i .i64, .sl [.i .i64, .i .i64]] [.int .i64 (0), .slice none 0 0])), [12, 1000000001], (some 12), none⟩,
   ⟨false, [], [], .det 2 (.store 12 [] 0 .nil (.t 83)), [12, 83], none, none⟩,
   o1 13 (.copy 84)])
 (.seq (.rg [o1 86 (.load 5 [] 0 .nil 2 true),
   o1 87 (.load 4 [] 0 .nil 2 false),
   ⟨false, [], [], .call 1 34 [.t 86, .t 87] .no, [88], (some 88), none⟩,
   ⟨false, [], [], .det 2 (.copy 88), [85, 88], (some 85), none⟩,
   ⟨false, [], [], .det 2 (.ext 85 0 2), [89, 85], (some 89), none⟩,
   ⟨false, [], [], .det 2 (.ext 85 2 1), [90, 85], (some 90), none⟩,
   ⟨false, [], [], .det 2 (.a (.c [.i .i64, .sl [.i .i64, .i .i64]] [.int .i64 (0), .slice none 0 0])), [14, 1000000001], (some 14), none⟩,
   ⟨false, [], [], .det 2 (.store 14 [] 0 .nil (.t 89)), [14, 89], none, none⟩,
   o1 15 (.copy 90)])
 (.seq (.rg [o1 92 (.load 3 [] 0 .nil 2 true),
   o1 93 (.load 4 [] 0 .nil 2 false),
   ⟨false, [], [], .call 1 38 [.t 92, .t 93] .no, [94], (some 94), none⟩,
   ⟨false, [], [], .det 2 (.copy 94), [91, 94], (some 91), none⟩,
   ⟨false, [], [], .det 2 (.ext 91 0 2), [95, 91], (some 95), none⟩,
   ⟨false, [], [], .det 2 (.ext 91 2 1), [96, 91], (some 96), none⟩,
   ⟨false, [], [], .det 2 (.a (.c [.i .i64, .sl [.i .i64, .i .i64]] [.int .i64 (0), .slice none 0 0])), [16, 1000000001], (some 16), none⟩,
   ⟨false, [], [], .det 2 (.store 16 [] 0 .nil (.t 95)), [16, 95], none, none⟩,
   o1 17 (.copy 96)])
 (.seq (.join [⟨2, [.b], false⟩] 5316911824683338463086553054033477636 none (.rg [o1 97 (.copy 13),
   o1 98 (.copy 97),
   ⟨false, [], [], .det 1 (.copy 15), [99], (some 99), some (1, true)⟩,
   ⟨false, [], [], .det 1 (.data .not [.t 99]), [100], (some 100), some (1, true)⟩,
   ⟨false, [], [], .pick 98 (.t 100) (.c (.bool false)), [101], (some 101), none⟩,
   o1 102 (.copy 101),
   ⟨false, [], [], .det 1 (.copy 17), [103], (some 103), some (5, true)⟩,
   ⟨false, [], [], .det 1 (.data .not [.t 103]), [104], (some 104), some (5, true)⟩,
   ⟨false, [], [], .pick 102 (.t 104) (.c (.bool false)), [105], (some 105), none⟩,
   o1 106 (.copy 105),
   ⟨false, [], [], .det 1 (.idx .nil), [107], (some 107), some (9, true)⟩,
   ⟨false, [], [], .det 1 (.load 12 [] 1 (.t 107) 1 true), [108], (some 108), some (9, true)⟩,
   ⟨false, [], [], .det 1 (.idx .nil), [109], (some 109), some (9, true)⟩,
   ⟨false, [], [], .det 1 (.load 3 [] 1 (.t 109) 1 true), [110], (some 110), some (9, true)⟩,
   ⟨false, [], [], .call 1 24 [.t 108, .t 110] .no, [111], (some 111), some (9, true)⟩,
   ⟨false, [], [], .pick 106 (.t 111) (.c (.bool false)), [112], (some 112), none⟩,
   o1 113 (.copy 112),
   ⟨false, [], [], .det 1 (.load 5 [] 0 .nil 2 true), [114], (some 114), some (16, true)⟩,
   ⟨false, [], [], .det 1 (.load 4 [] 0 .nil 2 false), [115], (some 115), some (16, true)⟩,
   ⟨false, [], [], .call 1 35 [.t 114, .t 115] .no, [116], (some 116), some (16, true)⟩,
   ⟨false, [], [], .pick 113 (.t 116) (.c (.bool false)), [117], (some 117), none⟩,
   o1 118 (.copy 117),
   ⟨false, [], [], .det 1 (.load 5 [] 0 .nil 2 true), [119], (some 119), some (21, true)⟩,
   ⟨false, [], [], .call 1 39 [.t 119] .no, [120], (some 120), some (21, true)⟩,
   ⟨false, [], [], .pick 118 (.t 120) (.c (.bool false)), [121], (some 121), none⟩,
   o1 2 (.copy 121)]))
 .ret)))))))))))
def s6 : Sig := ⟨[.rd false [.sl (.own none) [.d]]], (.one false [.d])⟩
noncomputable def E6 : TEnv := envOf [(20, p20), (33, p33), (34, p34), (35, p35), (36, p36), (37, p37), (38, p38), (24, p24), (39, p39)]
noncomputable def f6 (n : Nat) : List (Int) → Option ((Bool) × (Unit)) := runFn n E6 c6 [[.sl [.i .u8]]] [.b] [] [2] .no
noncomputable def g6 : List (Int) → Option ((Bool) × (Unit)) := f6 BIG
noncomputable def p6 : TSp := ⟨s6, [[.sl [.i .u8]]], [.b], [], Ou.j .no, g6⟩
theorem k6 : chkW PG E6 6 s6 (c6.ht 122) .no = some (c6.wc E6, [2]) := by kernel_rfl
theorem ok6 : p6.Ok PG 6 := mkOk (env_cons ok20 (env_cons ok33 (env_cons ok34 (env_cons ok35 (env_cons ok36 (env_cons ok37 (env_cons ok38 (env_cons ok24 (env_cons ok39 (env_nil PG)))))))))) k6 (by kernel_rfl)
theorem e6 (n : Nat) (a0 : List (Int)) : f6 n a0 =
  Option.bind (g20 a0) fun r0 =>
  bif r0.1 then
   some (true, ())
  else Option.bind (g33 a0) fun r1 =>
  Option.bind (g34 ((r1.1.1, r1.1.2.1), (r1.1.2.2.1, r1.1.2.2.2))) fun r2 =>
  Option.bind (g35 ((r1.1.1, r1.1.2.1), (r1.1.2.2.1, r1.1.2.2.2))) fun r3 =>
  Option.bind (bif (r2.1.2.2 == r3.1) then
    some true
   else Option.bind (g36 (r1.1.1, r1.1.2.1)) fun r4 =>
   bif !r4.1 then
    some true
   else Option.bind (g37 (r1.1.1, (r1.1.2.2.1, r1.1.2.2.2))) fun r5 =>
   some !r5.1 : Option (Bool)) fun x6 =>
  bif x6 then
   some (false, ())
  else bif r3.1 then
   Option.bind (g38 ((r1.1.1, r1.1.2.1), (r1.1.2.2.1, r1.1.2.2.2))) fun r7 =>
   Option.bind (g34 ((r7.1.1, r7.1.2.1), (r1.1.2.2.1, r1.1.2.2.2))) fun r8 =>
   Option.bind (bif r7.1.2.2 then
     bif r8.1.2.2 then
      Option.bind (g24 (r8.1.2.1, r1.1.2.1)) fun r9 =>
      bif r9.1 then
       Option.bind (g35 ((r7.1.1, r7.1.2.1), (r1.1.2.2.1, r1.1.2.2.2))) fun r10 =>
       some !r10.1
      else some false
     else some false
    else some false : Option (Bool)) fun x11 =>
   some (x11, ())
  else Option.bind (g38 ((r2.1.1, r2.1.2.1), (r1.1.2.2.1, r1.1.2.2.2))) fun r12 =>
  Option.bind (g34 ((r2.1.1, r2.1.2.1), (r1.1.2.2.1, r1.1.2.2.2))) fun r13 =>
  Option.bind (g38 ((r1.1.1, r1.1.2.1), (r1.1.2.2.1, r1.1.2.2.2))) fun r14 =>
  Option.bind (bif r12.1.2.2 then
    bif !r13.1.2.2 then
     bif !r14.1.2.2 then
      Option.bind (g24 (r12.1.2.1, r1.1.2.1)) fun r15 =>
      bif r15.1 then
       Option.bind (g35 ((r2.1.1, r2.1.2.1), (r1.1.2.2.1, r1.1.2.2.2))) fun r16 =>
       bif r16.1 then
        Option.bind (g39 (r2.1.1, r2.1.2.1)) fun r17 =>
        some r17.1
       else some false
      else some false
     else some false
    else some false
   else some false : Option (Bool)) fun x18 =>
  some (x18, ()) := by kernel_rfl
end Go.Fw

namespace Go.Fw

/-! the cursor -/
theorem and255 (n : Int) : bits .and .i64 n 255 = n % 256 := by
  have h255 : (BitVec.ofInt 64 255).toNat = 2 ^ 8 - 1 := by decide
  have key : (BitVec.ofInt 64 n &&& BitVec.ofInt 64 255).toNat = (n % ((2 ^ 64 : Nat) : Int)).toNat % 2 ^ 8 := by
    rw [BitVec.toNat_and, BitVec.toNat_ofInt, h255, Nat.and_two_pow_sub_one_eq_mod]
  show IntKind.i64.wrap ((BitVec.ofInt 64 n &&& BitVec.ofInt 64 255).toNat : Nat) = n % 256
  rw [key, IntKind.wrap_i64]
  omega
theorem and30 (n : Int) : bits .and .i64 n 1073741823 = n % 1073741824 := by
  have h30 : (BitVec.ofInt 64 1073741823).toNat = 2 ^ 30 - 1 := by decide
  have key : (BitVec.ofInt 64 n &&& BitVec.ofInt 64 1073741823).toNat = (n % ((2 ^ 64 : Nat) : Int)).toNat % 2 ^ 30 := by
    rw [BitVec.toNat_and, BitVec.toNat_ofInt, h30, Nat.and_two_pow_sub_one_eq_mod]
  show IntKind.i64.wrap ((BitVec.ofInt 64 n &&& BitVec.ofInt 64 1073741823).toNat : Nat) = n % 1073741824
  rw [key, IntKind.wrap_i64]
  omega

abbrev Cur := List Int × Int × Int
def curOk (c : Cur) : Prop := c.1.length ≤ 1048576 ∧ 0 ≤ c.2.1 ∧ c.2.1 ≤ c.1.length

theorem h120 (c : Cur) (hc : curOk c) : ∃ r c', g120 c = some (r, c') ∧ curOk c' ∧ 0 ≤ r ∧ r ≤ 255 := by
  have e : g120 c = f120 BIG c := rfl
  obtain ⟨h1, h2, h3⟩ := hc
  rw [e, e120, decide_eq_false (by decide), cond_false, decide_eq_false (by decide), cond_false]
  simp only [and255]
  by_cases h : c.2.1 < c.1.length
  · rw [decide_eq_true h, cond_true, bnd_ok h2 h, List.getElem?_eq_getElem (by omega), Option.bind_some, Option.bind_some]
    refine ⟨_, _, rfl, ⟨h1, ?_, ?_⟩, Int.emod_nonneg _ (by decide), by omega⟩
    · show 0 ≤ IntKind.wrap .i64 (c.2.1 + 1)
      rw [wr (by omega) (by omega)]; omega
    · show IntKind.wrap .i64 (c.2.1 + 1) ≤ _
      rw [wr (by omega) (by omega)]
      show c.2.1 + 1 ≤ (c.1.length : Int)
      omega
  · rw [decide_eq_false h, cond_false, Option.bind_some]
    exact ⟨_, _, rfl, ⟨h1, h2, h3⟩, Int.emod_nonneg _ (by decide), by omega⟩

theorem h88 (c : Cur) (n : Int) (hc : curOk c) (hn : n ≤ 1000000) : ∃ r c', g88 (c, n) = some (r, c') ∧ curOk c' ∧ 0 ≤ r ∧ (0 < n → r < n) ∧ (n ≤ 0 → r = 0) := by
  have e : g88 (c, n) = f88 BIG (c, n) := rfl
  rw [e, e88]
  by_cases h0 : n ≤ 0
  · rw [decide_eq_true h0]; exact ⟨0, c, rfl, hc, by omega, by omega, fun _ => rfl⟩
  · rw [decide_eq_false h0, cond_false]
    obtain ⟨r1, c1, k1, o1, a1, b1⟩ := h120 c hc
    by_cases h1 : n ≤ 256
    · rw [decide_eq_true h1, cond_true, k1, Option.bind_some, decide_eq_false (by omega), cond_false]
      refine ⟨_, _, rfl, o1, Int.tmod_nonneg _ a1, fun _ => ?_, by omega⟩
      show Int.tmod r1 n < n
      exact Int.tmod_lt_of_pos _ (by omega)
    · rw [decide_eq_false h1, cond_false, k1, Option.bind_some]
      obtain ⟨r2, c2, k2, o2, a2, b2⟩ := h120 c1 o1
      obtain ⟨r3, c3, k3, o3, a3, b3⟩ := h120 c2 o2
      obtain ⟨r4, c4, k4, o4, a4, b4⟩ := h120 c3 o3
      simp only [k2, k3, k4, Option.bind_some]
      rw [decide_eq_false (by omega), cond_false]
      refine ⟨_, _, rfl, o4, ?_, fun _ => Int.tmod_lt_of_pos _ (by omega), by omega⟩
      refine Int.tmod_nonneg _ ?_
      rw [wr (n := r1 * 16777216) (by omega) (by omega), wr (n := r2 * 65536) (by omega) (by omega), wr (n := r3 * 256) (by omega) (by omega), wr (n := r1 * 16777216 + r2 * 65536) (by omega) (by omega), wr (n := r1 * 16777216 + r2 * 65536 + r3 * 256) (by omega) (by omega), wr (by omega) (by omega)]
      omega

theorem h89 (c : Cur) (n : Int) (hc : curOk c) (hn : 2 ≤ n) (hn' : n ≤ 12) : ∃ e c', g89 (c, n) = some (e, c') ∧ curOk c' ∧ edB n e = true := by
  have e : g89 (c, n) = f89 BIG (c, n) := rfl
  rw [e, e89]
  obtain ⟨r0, c0, k0, o0, a0, b0, _⟩ := h88 c n hc (by omega)
  obtain ⟨r1, c1, k1, o1, a1, b1, _⟩ := h88 c0 n o0 (by omega)
  have b0 := b0 (by omega)
  have b1 := b1 (by omega)
  simp only [k0, k1, Option.bind_some]
  have key : ∀ x2 : Int, 0 ≤ x2 → x2 < n → x2 ≠ r0 → ∃ e c', (bif decide (x2 < r0) then some ((x2, r0), c1) else some ((r0, x2), c1)) = some (e, c') ∧ curOk c' ∧ edB n e = true := by
    intro x2 p q hne
    by_cases h : x2 < r0
    · rw [decide_eq_true h]
      refine ⟨_, _, rfl, o1, ?_⟩
      simp only [edB, Bool.and_eq_true, inB_t, decide_eq_true_eq]
      omega
    · rw [decide_eq_false h]
      refine ⟨_, _, rfl, o1, ?_⟩
      simp only [edB, Bool.and_eq_true, inB_t, decide_eq_true_eq]
      omega
  by_cases h : r0 = r1
  · rw [decide_eq_true h, cond_true, decide_eq_false (by omega), cond_false, Option.bind_some, wr (by omega) (by omega)]
    have hm : Int.tmod (r0 + 1) n = if r0 + 1 = n then 0 else r0 + 1 := by
      rw [Int.tmod_eq_emod_of_nonneg (by omega)]
      split
      · rename_i h; rw [h]; exact Int.emod_self
      · exact Int.emod_eq_of_lt (by omega) (by omega)
    rw [hm]
    split
    · exact key 0 (by omega) (by omega) (by omega)
    · exact key _ (by omega) (by omega) (by omega)
  · rw [decide_eq_false h, cond_false, Option.bind_some]
    exact key r1 a1 b1 (fun hh => h hh.symm)

/-! graphs -/
def GrOk (n : Int) (es : List Ed) : Prop := 2 ≤ n ∧ n ≤ 12 ∧ Srt es ∧ (∀ e, e ∈ es → edB n e = true)

theorem eOk_of {n : Int} {es : List Ed} (h : GrOk n es) (hl : es.length ≤ 66) : eOk n es = true := by
  unfold eOk
  rw [if_pos]
  · rw [decide_eq_true_eq]; omega
  · intro i hi
    have hy := List.getElem?_eq_getElem hi
    cases i with
    | zero => rw [eP_0 hy]; exact h.2.2.2 _ (List.getElem_mem _)
    | succ j =>
      have hj := List.getElem?_eq_getElem (show j < es.length by omega)
      rw [eP_s hy hj, h.2.2.2 _ (List.getElem_mem _), Bool.true_and]
      exact List.pairwise_iff_getElem.1 h.2.2.1 j (j + 1) (by omega) (by omega) (by omega)

theorem h72 (n : Int) (es : List Ed) (e : Ed) (hl : es.length ≤ maxLen) : g72 ((n, es), e) = some (decide (e ∈ es), ()) := by
  show f72 BIG _ = _
  rw [e72, h108 _ _ hl]; rfl
theorem h35 (n : Int) (es : List Ed) (e : Ed) (hl : es.length ≤ maxLen) : g35 ((n, es), e) = some (decide (e ∈ es), ()) := by
  show f35 BIG _ = _
  rw [e35, h98 _ _ hl]; rfl

theorem h96 (c : Cur) (hc : curOk c) : ∃ n es c', g96 c = some ((n, es), c') ∧ curOk c' ∧ GrOk n es ∧ es.length ≤ 16 := by
  have hm : maxLen = 9223372036854775807 := by decide
  have e : g96 c = f96 BIG c := rfl
  rw [e, e96]
  obtain ⟨r0, c0, k0, o0, a0, b0, _⟩ := h88 c 11 hc (by omega)
  have b0 := b0 (by omega)
  simp only [k0, Option.bind_some]
  rw [wr (by omega) (by omega)]
  have := loop_rel (F := fun (self2 : (List (Int) × Int × Int) × (Int × List (Int × Int)) × Int → Option ((List (Int) × Int × Int) × (Int × List (Int × Int)))) (x1 : (List (Int) × Int × Int) × (Int × List (Int × Int)) × Int) =>
    Option.bind (g88 (x1.1, (16 : Int))) fun r3 =>
    bif decide (x1.2.2 < r3.1) then
     Option.bind (Option.bind (g89 (r3.2, x1.2.1.1)) fun r4 =>
      Option.bind (g72 (x1.2.1, (r4.1.1, r4.1.2))) fun r5 =>
      bif !r5.1 then
       Option.bind (g109 (x1.2.1.2, (r4.1.1, r4.1.2))) fun r6 =>
       some (r4.2, (x1.2.1.1, r6.1))
      else some (r4.2, x1.2.1) : Option ((List (Int) × Int × Int) × (Int × List (Int × Int)))) fun x7 =>
     self2 (x7.1, x7.2, IntKind.wrap .i64 (x1.2.2 + (1 : Int)))
    else some (r3.2, x1.2.1))
    (fun x => ∃ i : Nat, x.2.2 = i ∧ i ≤ 16 ∧ curOk x.1 ∧ GrOk x.2.1.1 x.2.1.2 ∧ x.2.1.2.length ≤ i) (fun x => 16 - x.2.2.toNat) (fun _ b => curOk b.1 ∧ GrOk b.2.1 b.2.2 ∧ b.2.2.length ≤ 16) (fun self x hx hs => ?_) (n := BIG) (x := (c0, (2 + r0, []), 0)) (by simp [BIG]) ⟨0, rfl, by omega, o0, ⟨by show 2 ≤ 2 + r0; omega, by show 2 + r0 ≤ 12; omega, List.Pairwise.nil, by simp⟩, by simp⟩
  · obtain ⟨b, hb, q1, q2, q3⟩ := this
    rw [hb]
    exact ⟨b.2.1, b.2.2, b.1, rfl, q1, q2, q3⟩
  · obtain ⟨cu, ⟨n, es⟩, iz⟩ := x
    obtain ⟨i, rfl, hi, hcu, hg, hl⟩ := hx
    simp only at hcu hg hl
    obtain ⟨r3, c3, k3, o3, a3, b3, _⟩ := h88 cu 16 hcu (by omega)
    have b3 := b3 (by omega)
    simp only [k3, Option.bind_some]
    by_cases h : (i : Int) < r3
    · rw [decide_eq_true h, cond_true]
      obtain ⟨e, c4, k4, o4, hed⟩ := h89 c3 n o3 hg.1 hg.2.1
      simp only [k4, Option.bind_some]
      rw [h72 n es e (by omega), Option.bind_some, wr1 (by omega)]
      by_cases hin : e ∈ es
      · rw [decide_eq_true hin, Bool.not_true, cond_false, Option.bind_some]
        exact hs _ ⟨i + 1, rfl, by omega, o4, hg, by show es.length ≤ _; omega⟩ (by simp; omega)
      · rw [decide_eq_false hin, Bool.not_false, cond_true, h109 es e (by omega), Option.bind_some, Option.bind_some]
        refine hs _ ⟨i + 1, rfl, by omega, o4, ⟨hg.1, hg.2.1, ins_srt hg.2.2.1, fun x hx => ?_⟩, ?_⟩ (by simp; omega)
        · rcases ins_mem.1 hx with rfl | hx
          · exact hed
          · exact hg.2.2.2 x hx
        · have := ins_len es e
          show (ins es e).length ≤ _
          omega
    · rw [decide_eq_false h, cond_false]
      exact ⟨_, rfl, o3, hg, by show es.length ≤ _; omega⟩

theorem h86 (a : List Int) (ha : a.length ≤ 1048576) : ∃ c, g86 a = some (c, ()) ∧ curOk c := by
  have hm : maxLen = 9223372036854775807 := by decide
  have e : g86 a = f86 BIG a := rfl
  rw [e, e86]
  have := loop_rel (F := fun (self1 : Int × Int → Option (Int)) (x0 : Int × Int) =>
    Option.bind (bif decide (x0.2 < (a.length : Int)) then
      some (decide (x0.2 < (4000 : Int)))
     else some false : Option (Bool)) fun x2 =>
    bif x2 then
     bnd a.length x0.2 fun n3 =>
     Option.bind a[n3]? fun y4 =>
     self1 (bits .and .i64 (IntKind.wrap .i64 ((IntKind.wrap .i64 ((IntKind.wrap .i64 (x0.1 * (131 : Int))) + (IntKind.wrap .i64 (y4)))) + (7 : Int))) (1073741823 : Int), IntKind.wrap .i64 (x0.2 + (1 : Int)))
    else some x0.1) (fun x => ∃ i : Nat, x.2 = i ∧ i ≤ a.length) (fun x => a.length - x.2.toNat) (fun _ _ => True) (fun self x ⟨i, h1, h2⟩ hs => ?_) (n := BIG) (x := (IntKind.wrap .i64 ((13501 : Int) + (a.length : Int)), 0)) (by simp [BIG]; omega) ⟨0, rfl, by omega⟩
  · obtain ⟨b, hb, _⟩ := this
    rw [hb]
    exact ⟨_, rfl, ha, Int.le_refl _, by simp⟩
  · obtain ⟨z, j⟩ := x
    simp only at h1
    subst h1
    by_cases h : i < a.length
    · by_cases h' : (i : Int) < 4000
      · simp only [show ((i : Int) < (a.length : Int)) from by omega, h', decide_true, cond_true, Option.bind_some]
        rw [bnd_nat h, List.getElem?_eq_getElem h, Option.bind_some, wr1 (by omega)]
        exact hs _ ⟨i + 1, rfl, h⟩ (by simp; omega)
      · simp only [show ((i : Int) < (a.length : Int)) from by omega, h', decide_true, decide_false, cond_true, cond_false, Option.bind_some]
        exact ⟨_, rfl, trivial⟩
    · simp only [show ¬ ((i : Int) < (a.length : Int)) from by omega, decide_false, cond_false, Option.bind_some]
      exact ⟨_, rfl, trivial⟩

theorem h33 (a : List Int) (ha : a.length ≤ 1048576) : ∃ n es e, g33 a = some ((n, es, e.1, e.2), ()) ∧ GrOk n es ∧ es.length ≤ 16 ∧ edB n e = true := by
  have e : g33 a = f33 BIG a := rfl
  rw [e, e33]
  obtain ⟨c, k, o⟩ := h86 a ha
  obtain ⟨n, es, c1, k1, o1, g1, l1⟩ := h96 c o
  obtain ⟨ed, c2, k2, o2, g2⟩ := h89 c1 n o1 g1.1 g1.2.1
  simp only [k, k1, k2, Option.bind_some]
  exact ⟨n, es, ed, rfl, g1, l1, g2⟩

theorem h36 (n : Int) (es : List Ed) (h : GrOk n es) (hl : es.length ≤ 66) : g36 (n, es) = some (true, ()) := by
  show f36 BIG _ = _
  rw [e36, h84', h99 n es (by omega), eOk_of h hl]
  have : inB n 1 12 = true := inB_t.2 ⟨by have := h.1; omega, h.2.1⟩
  rw [this]; rfl
theorem h39 (n : Int) (es : List Ed) (h : GrOk n es) (hl : es.length ≤ 66) : g39 (n, es) = some (true, ()) := by
  show f39 BIG _ = _
  rw [e39, h82', h101 n es (by omega), eOk_of h hl]
  have : inB n 1 12 = true := inB_t.2 ⟨by have := h.1; omega, h.2.1⟩
  rw [this]; rfl

theorem h34 (n : Int) (es : List Ed) (e : Ed) (h : GrOk n es) (hl : es.length ≤ 66) (he : edB n e = true) : g34 ((n, es), e) = some (if e ∈ es then (0, [], false) else (n, ins es e, true), ()) := by
  have hm : maxLen = 9223372036854775807 := by decide
  show f34 BIG _ = _
  rw [e34, h36 n es h hl, h37, he, h35 n es e (by omega), h97 es e (by omega)]
  by_cases hin : e ∈ es
  · rw [if_pos hin, decide_eq_true hin]; rfl
  · rw [if_neg hin, decide_eq_false hin, fdI_ins h.2.2.1 hin]; rfl

def del (es : List Ed) (e : Ed) : List Ed := es.filter (fun y => !decide (y = e))
theorem h100 (es : List Ed) (e : Ed) (hl : es.length ≤ 66) : g100 (es, e) = some (del es e, ()) := by
  have hm : maxLen = 9223372036854775807 := by decide
  show f100 BIG _ = _
  rw [e100, foldLoop es (by omega) (fun i (c : List Ed) => c.length ≤ i) (fun c y => if (!decide (y = e)) then c ++ [y] else c) id (by simp) (fun i c y _ (h : c.length ≤ i) => by show List.length (if _ then _ else _) ≤ _; split <;> (try simp) <;> omega)]
  · rw [foldl_filter]; rfl
  · intro self c i y hy (hc : c.length ≤ i)
    have hi := (List.getElem?_eq_some_iff.1 hy).1
    simp only [show ((i : Int) < (es.length : Int)) from by omega, decide_true, cond_true]
    rw [bnd_nat hi, hy, Option.bind_some, wr1 (by omega)]
    have hd : (decide (y.1 = e.1) && (decide (y.2 = e.2) && true)) = decide (y = e) := by
      obtain ⟨y1, y2⟩ := y
      obtain ⟨e1, e2⟩ := e
      by_cases h1 : y1 = e1 <;> by_cases h2 : y2 = e2 <;> simp [h1, h2]
    rw [hd]
    cases decide (y = e) with
    | true => simp
    | false => simp [show c.length + 1 ≤ 4294967296 from by omega]
  · intro self c hc
    simp
theorem h38 (n : Int) (es : List Ed) (e : Ed) (h : GrOk n es) (hl : es.length ≤ 66) : g38 ((n, es), e) = some (if e ∈ es then (n, del es e, true) else (0, [], false), ()) := by
  have hm : maxLen = 9223372036854775807 := by decide
  show f38 BIG _ = _
  rw [e38, h36 n es h hl, h35 n es e (by omega), h100 es e hl]
  by_cases hin : e ∈ es
  · rw [if_pos hin, decide_eq_true hin]; rfl
  · rw [if_neg hin, decide_eq_false hin]; rfl

theorem h24 (a b : List Ed) (ha : a.length ≤ maxLen) : g24 (a, b) = some (decide (a = b), ()) := by
  show f24 BIG _ = _
  rw [e24]
  by_cases hl : a.length = b.length
  · rw [decide_eq_true (by omega), Bool.not_true, cond_false, eqLoop a b ha hl false]
    · by_cases h : a = b <;> simp [h]
    · intro self i x y hx hy
      have hi := (List.getElem?_eq_some_iff.1 hx).1
      simp only [show ((i : Int) < (a.length : Int)) from by omega, decide_true, cond_true]
      rw [bnd_nat hi, hx, Option.bind_some, bnd_nat (by omega), hy, Option.bind_some, wr1 (by omega)]
      obtain ⟨x1, x2⟩ := x
      obtain ⟨y1, y2⟩ := y
      by_cases h1 : x1 = y1 <;> by_cases h2 : x2 = y2 <;> simp [h1, h2]
    · intro self
      simp
  · rw [decide_eq_false (by omega), Bool.not_false, cond_true, decide_eq_false (fun h => hl (by rw [h]))]

theorem del_mem {es : List Ed} {e x : Ed} : x ∈ del es e ↔ x ∈ es ∧ x ≠ e := by simp [del]
theorem del_srt {es : List Ed} {e : Ed} (h : Srt es) : Srt (del es e) := h.filter _
theorem del_len (es : List Ed) (e : Ed) : (del es e).length ≤ es.length := List.length_filter_le _ _
theorem GrOk.ins {n : Int} {es : List Ed} {e : Ed} (h : GrOk n es) (he : edB n e = true) : GrOk n (ins es e) := ⟨h.1, h.2.1, ins_srt h.2.2.1, fun x hx => by
  rcases ins_mem.1 hx with rfl | hx
  · exact he
  · exact h.2.2.2 x hx⟩
theorem GrOk.del {n : Int} {es : List Ed} {e : Ed} (h : GrOk n es) : GrOk n (del es e) := ⟨h.1, h.2.1, del_srt h.2.2.1, fun x hx => h.2.2.2 x (del_mem.1 hx).1⟩
theorem ins_del {es : List Ed} {e : Ed} (h : Srt es) (hin : e ∈ es) : ins (del es e) e = es := srt_eq (ins_srt (del_srt h)) h fun x => by
  rw [ins_mem, del_mem]
  constructor
  · rintro (rfl | h)
    · exact hin
    · exact h.1
  · intro hx
    by_cases hxe : x = e
    · exact .inl hxe
    · exact .inr ⟨hx, hxe⟩
theorem del_ins {es : List Ed} {e : Ed} (h : Srt es) (hin : e ∉ es) : del (ins es e) e = es := srt_eq (del_srt (ins_srt h)) h fun x => by
  rw [del_mem, ins_mem]
  constructor
  · rintro ⟨h1 | h1, h2⟩
    · exact absurd h1 h2
    · exact h1
  · intro hx
    exact ⟨.inr hx, fun hxe => hin (hxe ▸ hx)⟩

theorem h20 (a : List Int) : g20 a = some (decide ((1048576 : Int) < (a.length : Int)), ()) := e20 BIG a

theorem law6 (a : List Int) : g6 a = some (true, ()) := by
  have hm : maxLen = 9223372036854775807 := by decide
  show f6 BIG _ = _
  rw [e6, h20, Option.bind_some]
  by_cases ha : a.length ≤ 1048576
  · rw [decide_eq_false (by omega), cond_false]
    obtain ⟨n, es, e, k, g, l, he⟩ := h33 a ha
    obtain ⟨e1, e2⟩ := e
    simp only [k, Option.bind_some]
    rw [h34 n es (e1, e2) g (by omega) he, h35 n es (e1, e2) (by omega), h36 n es g (by omega), h37, he]
    simp only [Option.bind_some]
    have li := ins_len es (e1, e2)
    have ld := del_len es (e1, e2)
    by_cases hin : (e1, e2) ∈ es
    · have hnd : (e1, e2) ∉ del es (e1, e2) := fun hh => (del_mem.1 hh).2 rfl
      rw [h38 n es (e1, e2) g (by omega)]
      simp only [if_pos hin, decide_eq_true hin, Option.bind_some]
      rw [h34 n _ (e1, e2) (g.del) (by omega) he]
      simp only [if_neg hnd, Option.bind_some]
      rw [ins_del g.2.2.1 hin, h24 es es (by omega), h35 n _ (e1, e2) (by omega)]
      simp [hnd]
    · have hii : (e1, e2) ∈ ins es (e1, e2) := ins_mem.2 (.inl rfl)
      simp only [if_neg hin, decide_eq_false hin, Option.bind_some]
      rw [h38 n _ (e1, e2) (g.ins he) (by omega), h34 n _ (e1, e2) (g.ins he) (by omega) he, h38 n es (e1, e2) g (by omega)]
      simp only [if_pos hii, if_neg hin, Option.bind_some]
      rw [del_ins g.2.2.1 hin, h24 es es (by omega), h35 n _ (e1, e2) (by omega), h39 n _ (g.ins he) (by omega)]
      simp [hii]
  · rw [decide_eq_true (by omega)]; rfl
end Go.Fw
