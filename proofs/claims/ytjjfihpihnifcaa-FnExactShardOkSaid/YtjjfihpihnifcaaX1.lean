/- The given functions, as what they compute; each is shown to be what the code does. No conditions. -/
import Derived.Test.YtjjfihpihnifcaaX0
set_option linter.unusedVariables false
set_option linter.unusedSimpArgs false
namespace Go.Fw
/- laws.FnExactShardOk -/
def c_lFnExactShardOk : TC :=
 (.seq (.rg [o1 1 (.a (.t 0)),
   o1 2 (.lit [.b] [.bool false])])
 (.seq (.rg [o1 3 (.lit [.i .i64] [.int .i64 (1048576)])])
 (.seq (.rg [o1 7 (.load 1 [] 0 .nil 7 false),
   o1 8 (.copy 3),
   o3 9 34 [.t 7, .t 8],
   o1 3 (.copy 9)])
 (.seq (.seq (.rg [o1 10 (.copy 3),
   o1 11 (.data (.bin .lss) [.t 10, .c (.int .i64 (0))])])
 (.cond (.t 11)
  (.seq (.rg [o1 2 (.lit [.b] [.bool true])])
  .ret)
  .skip))
 (.seq (.rg [o1 12 (.load 1 [] 0 .nil 7 false),
   o3 13 36 [.t 12],
   o3 14 35 [.t 13],
   o1 4 (.copy 14)])
 (.seq (.rg [o1 15 (.load 1 [] 0 .nil 7 false),
   o3 16 36 [.t 15],
   ⟨false, [], [], .det 2 (.a (.c [.i .i64, .i .i64, .sl [.i .i64, .i .i64, .i .i64, .b], .i .i64, .b, .sl [.i .i64, .i .i64], .sl [.i .i64]] [.int .i64 (0), .int .i64 (0), .slice none 0 0, .int .i64 (0), .bool false, .slice none 0 0, .slice none 0 0])), [5, 1000000001], (some 5), none⟩,
   o4 2 [5, 16] (.store 5 [] 0 .nil (.t 16))])
 (.seq (.rg [o1 17 (.load 5 [] 0 .nil 7 true),
   o3 18 37 [.t 17],
   o1 6 (.copy 18)])
 (.seq (.seq (.rg [o1 19 (.copy 6),
   o1 20 (.copy 4),
   o1 21 (.data (.beq true) [.t 19, .t 20])])
 (.cond (.t 21)
  (.seq (.rg [o1 2 (.lit [.b] [.bool false])])
  .ret)
  .skip))
 (.seq (.seq (.rg [o1 22 (.load 5 [] 0 .nil 7 true),
   o1 23 (.load 1 [] 0 .nil 7 false),
   o3 24 36 [.t 23],
   o3 25 38 [.t 22, .t 24],
   o1 26 (.data .not [.t 25])])
 (.cond (.t 26)
  (.seq (.rg [o1 2 (.lit [.b] [.bool false])])
  .ret)
  .skip))
 (.seq (.rg [o1 2 (.lit [.b] [.bool true])])
 .ret))))))))))
def s_lFnExactShardOk : Sig := ⟨[.rd true [.d, .d, .sl (.own none) [.d, .d, .d, .d], .d, .d, .sl (.own none) [.d, .d], .sl (.own none) [.d]]], (.one false [.d])⟩
noncomputable def E_lFnExactShardOk : TEnv := envOf [(34, p_lszShard), (36, p_ltoShard), (35, p_sShardOk), (37, p_iShardOk), (38, p_leqShard)]
noncomputable def f_lFnExactShardOk (n : Nat) : (Int × Int × List (Int × Int × Int × Bool) × Int × Bool × List (Int × Int) × List (Int)) → Option ((Bool) × Unit) := runFn n E_lFnExactShardOk c_lFnExactShardOk [[.i .i64, .i .i64, .sl [.i .i64, .i .i64, .i .i64, .b], .i .i64, .b, .sl [.i .i64, .i .i64], .sl [.i .i64]]] [.b] [] [2] .no
noncomputable def g_lFnExactShardOk := f_lFnExactShardOk BIG
noncomputable def p_lFnExactShardOk : TSp := ⟨s_lFnExactShardOk, [[.i .i64, .i .i64, .sl [.i .i64, .i .i64, .i .i64, .b], .i .i64, .b, .sl [.i .i64, .i .i64], .sl [.i .i64]]], [.b], [], Ou.j .no, g_lFnExactShardOk⟩
theorem k_lFnExactShardOk : chkW PG E_lFnExactShardOk 6 s_lFnExactShardOk (c_lFnExactShardOk.ht 27) .no = some (c_lFnExactShardOk.wc E_lFnExactShardOk, [2]) := by kernel_rfl
theorem ok_lFnExactShardOk : p_lFnExactShardOk.Ok PG 6 := mkOk (env_cons ok_lszShard (env_cons ok_ltoShard (env_cons ok_sShardOk (env_cons ok_iShardOk (env_cons ok_leqShard (env_nil PG)))))) k_lFnExactShardOk (by kernel_rfl)
theorem e_lFnExactShardOk (n : Nat) (a0 : Int × Int × List (Int × Int × Int × Bool) × Int × Bool × List (Int × Int) × List (Int)) : f_lFnExactShardOk n a0 =
  Option.bind (g_lszShard (a0, (1048576 : Int))) fun r0 =>
  bif decide (r0.1 < (0 : Int)) then
   some (true, ())
  else Option.bind (g_ltoShard a0) fun r1 =>
  Option.bind (g_sShardOk r1.1) fun r2 =>
  Option.bind (g_ltoShard a0) fun r3 =>
  Option.bind (g_iShardOk r3.1) fun r4 =>
  bif !(r4.1 == r2.1) then
   some (false, ())
  else Option.bind (g_ltoShard a0) fun r5 =>
  Option.bind (g_leqShard (r3.1, r5.1)) fun r6 =>
  bif !r6.1 then
   some (false, ())
  else some (true, ()) := by kernel_rfl
/- impl.copyInts -/
def c_icopyInts : TC :=
 (.seq (.rg [o1 2 (.lit [.sl [.i .i64]] [.slice none 0 0])])
 (.seq (.rg [o1 3 (.copy 0),
   o1 4 (.app none 3),
   ⟨false, [], [], .det 2 (.copy 4), [2, 4], (some 2), none⟩])
 .ret))
def s_icopyInts : Sig := ⟨[.rd false [.sl (.own none) [.d]]], (.one false [.sl (.own none) [.d]])⟩
noncomputable def E_icopyInts : TEnv := envOf []
noncomputable def f_icopyInts (n : Nat) : List (Int) → Option ((List (Int)) × Unit) := runFn n E_icopyInts c_icopyInts [[.sl [.i .i64]]] [.sl [.i .i64]] [] [2] .no
noncomputable def g_icopyInts := f_icopyInts BIG
noncomputable def p_icopyInts : TSp := ⟨s_icopyInts, [[.sl [.i .i64]]], [.sl [.i .i64]], [], Ou.j .no, g_icopyInts⟩
theorem k_icopyInts : chkW PG E_icopyInts 104 s_icopyInts (c_icopyInts.ht 5) .no = some (c_icopyInts.wc E_icopyInts, [2]) := by kernel_rfl
theorem ok_icopyInts : p_icopyInts.Ok PG 104 := mkOk (env_nil PG) k_icopyInts (by kernel_rfl)
theorem e_icopyInts (n : Nat) (a0 : List (Int)) : f_icopyInts n a0 =
  bif decide (a0.length ≤ 4294967296) then
   some (a0, ())
  else none := by kernel_rfl
/- impl.with -/
def c_iwith : TC :=
 (.seq (.rg [o1 4 (.lit [.sl [.i .i64]] [.slice none 0 0])])
 (.seq (.rg [o1 5 (.lit [.i .i64] [.int .i64 (0)])])
 (.seq (.join [⟨5, [.i .i64], false⟩] 1048544 none (.block 0 (.loop [⟨5, [.i .i64], false⟩] 1048544
  (.seq (.seq (.join [⟨17, [.b], false⟩] 262080 none (.rg [o1 6 (.copy 5),
    ⟨true, [], [], .det 1 (.copy 0), [7], (some 7), none⟩,
    o1 8 (.len 7),
    o1 9 (.data (.bin .lss) [.t 6, .t 8]),
    o1 10 (.copy 9),
    ⟨true, [], [], .det 1 (.copy 0), [11], (some 11), some (4, true)⟩,
    o2 12 (.copy 5) 4 true,
    o2 13 (.index 11 (.t 12)) 4 true,
    o2 14 (.load 0 [(0, 1)] 0 (.t 13) 1 false) 4 true,
    o2 15 (.copy 1) 4 true,
    o2 16 (.data (.bin .lss) [.t 14, .t 15]) 4 true,
    ⟨false, [], [], .pick 10 (.t 16) (.c (.bool false)), [17], (some 17), none⟩]))
  (.cond (.t 17)
   .skip
   (.exit 0)))
  (.block 1 (.rg [o1 18 (.copy 5),
    o1 19 (.data (.bin .add) [.t 18, .c (.int .i64 (1))]),
    o1 5 (.copy 19)]))))))
 (.seq (.seq (.join [⟨31, [.b], false⟩] 4293918720 none (.rg [o1 20 (.copy 5),
   ⟨true, [], [], .det 1 (.copy 0), [21], (some 21), none⟩,
   o1 22 (.len 21),
   o1 23 (.data (.bin .lss) [.t 20, .t 22]),
   o1 24 (.copy 23),
   ⟨true, [], [], .det 1 (.copy 0), [25], (some 25), some (4, true)⟩,
   o2 26 (.copy 5) 4 true,
   o2 27 (.index 25 (.t 26)) 4 true,
   o2 28 (.load 0 [(0, 1)] 0 (.t 27) 1 false) 4 true,
   o2 29 (.copy 1) 4 true,
   o2 30 (.data (.bin .eql) [.t 28, .t 29]) 4 true,
   ⟨false, [], [], .pick 24 (.t 30) (.c (.bool false)), [31], (some 31), none⟩]))
 (.cond (.t 31)
  (.seq (.rg [⟨false, [], [], .det 2 (.copy 0), [32, 0, 7, 21], (some 32), none⟩,
    ⟨false, [], [], .det 2 (.copy 32), [4, 32], (some 4), none⟩])
  .ret)
  .skip))
 (.seq (.rg [⟨true, [], [], .det 1 (.copy 0), [33], (some 33), none⟩,
   o1 34 (.copy 5),
   o1 35 (.res 33 none (some (.t 34))),
   o3 36 104 [.t 35],
   o1 37 (.copy 1),
   o1 38 (.sli [.i .i64] [.t 37]),
   ⟨false, [], [], .det 2 (.app (some 36) 38), [39, 36], (some 39), none⟩,
   ⟨true, [], [], .det 1 (.copy 0), [40], (some 40), none⟩,
   o1 41 (.copy 5),
   o1 42 (.res 40 (some (.t 41)) none),
   ⟨false, [], [], .det 2 (.app (some 39) 42), [43, 39], (some 43), none⟩,
   ⟨false, [], [], .det 2 (.copy 43), [4, 43], (some 4), none⟩])
 .ret)))))
def s_iwith : Sig := ⟨[.tk false [.sl (.own none) [.d]], .rd false [.d]], (.one false [.sl (.own none) [.d]])⟩
noncomputable def E_iwith : TEnv := envOf [(104, p_icopyInts)]
noncomputable def f_iwith (n : Nat) : List (Int) × Int → Option ((List (Int)) × Unit) := runFn n E_iwith c_iwith [[.sl [.i .i64]], [.i .i64]] [.sl [.i .i64]] [] [4] .no
noncomputable def g_iwith := f_iwith BIG
noncomputable def p_iwith : TSp := ⟨s_iwith, [[.sl [.i .i64]], [.i .i64]], [.sl [.i .i64]], [], Ou.j .no, g_iwith⟩
theorem k_iwith : chkW PG E_iwith 49 s_iwith (c_iwith.ht 44) .no = some (c_iwith.wc E_iwith, [4]) := by kernel_rfl
theorem ok_iwith : p_iwith.Ok PG 49 := mkOk (env_cons ok_icopyInts (env_nil PG)) k_iwith (by kernel_rfl)
theorem e_iwith (n : Nat) (a0 : List (Int)) (a1 : Int) : f_iwith n (a0, a1) =
  Option.bind (loopT n (X := Int) (B := Int) (fun self1 x0 =>
    Option.bind (bif decide (x0 < (a0.length : Int)) then
      bnd a0.length x0 fun n2 =>
      Option.bind a0[n2]? fun y3 =>
      some (decide (y3 < a1))
     else some false : Option (Bool)) fun x4 =>
    bif x4 then
     self1 (IntKind.wrap .i64 (x0 + (1 : Int)))
    else some x0) (0 : Int) : Option (Int)) fun x5 =>
  Option.bind (bif decide (x5 < (a0.length : Int)) then
    bnd a0.length x5 fun n6 =>
    Option.bind a0[n6]? fun y7 =>
    some (decide (y7 = a1))
   else some false : Option (Bool)) fun x8 =>
  bif x8 then
   some (a0, ())
  else bif decide (0 ≤ x5) then
   bif decide (0 ≤ (Int.toNat x5) ∧ (Int.toNat x5) ≤ a0.length) then
    Option.bind (g_icopyInts (List.take ((Int.toNat x5) - 0) (List.drop 0 a0))) fun r9 =>
    bif decide (r9.1.length + [a1].length ≤ 4294967296) then
     bif decide (0 ≤ x5) then
      bif decide ((Int.toNat x5) ≤ a0.length ∧ a0.length ≤ a0.length) then
       bif decide ((r9.1 ++ [a1]).length + (List.take (a0.length - (Int.toNat x5)) (List.drop (Int.toNat x5) a0)).length ≤ 4294967296) then
        some ((r9.1 ++ [a1]) ++ (List.take (a0.length - (Int.toNat x5)) (List.drop (Int.toNat x5) a0)), ())
       else none
      else none
     else none
    else none
   else none
  else none := by kernel_rfl
/- impl.walk -/
def c_iwalk : TC :=
 (.seq (.rg [o1 6 (.lit [.sl [.i .i64]] [.slice none 0 0])])
 (.seq (.rg [o1 7 (.lit [.sl [.i .i64]] [.slice none 0 0])])
 (.seq (.join [⟨7, [.sl [.i .i64]], false⟩] 281474976703104 none (.seq (.rg [o1 13 (.copy 0),
   o1 14 (.len 13),
   o1 15 (.lit [.i .i64] [.int .i64 (0)])])
 (.block 0 (.loop [⟨7, [.sl [.i .i64]], false⟩, ⟨15, [.i .i64], false⟩] 281474976678528
  (.seq (.rg [o1 16 (.data (.bin .lss) [.t 15, .t 14])])
  (.seq (.cond (.t 16)
   .skip
   (.exit 0))
  (.seq (.join [⟨7, [.sl [.i .i64]], false⟩] 140737488224896 none (.block 1 (.seq (.rg [o1 17 (.index 13 (.t 15)),
    o1 18 (.load 13 [(0, 2)] 0 (.t 17) 2 false),
    ⟨false, [], [], .det 2 (.a (.c [.i .i64, .i .i64] [.int .i64 (0), .int .i64 (0)])), [9, 1000000001], (some 9), none⟩,
    o4 1 [9] (.store 9 [] 0 .nil (.t 18))])
  (.seq (.join [⟨7, [.sl [.i .i64]], false⟩] 8589410432 none (.seq (.join [⟨28, [.b], false⟩] 536346624 none (.rg [o1 19 (.idx .nil),
    o1 20 (.load 9 [] 0 (.t 19) 1 false),
    o1 21 (.copy 1),
    o1 22 (.data (.bin .eql) [.t 20, .t 21]),
    o1 23 (.copy 22),
    o2 24 (.idx .nil) 4 true,
    o2 25 (.load 9 [] 1 (.t 24) 1 false) 4 true,
    o2 26 (.copy 2) 4 true,
    o2 27 (.data (.bin .neq) [.t 25, .t 26]) 4 true,
    ⟨false, [], [], .pick 23 (.t 27) (.c (.bool false)), [28], (some 28), none⟩]))
  (.cond (.t 28)
   (.rg [⟨false, [], [], .det 2 (.copy 7), [29, 7], (some 29), none⟩,
     o1 30 (.idx .nil),
     o1 31 (.load 9 [] 1 (.t 30) 1 false),
     ⟨false, [], [], .call 2 49 [.t 29, .t 31] .no, [32, 29], (some 32), none⟩,
     ⟨false, [], [], .det 2 (.copy 32), [7, 32], (some 7), none⟩])
   .skip)))
  (.seq (.join [⟨42, [.b], false⟩] 8787503087616 none (.rg [o1 33 (.idx .nil),
    o1 34 (.load 9 [] 1 (.t 33) 1 false),
    o1 35 (.copy 1),
    o1 36 (.data (.bin .eql) [.t 34, .t 35]),
    o1 37 (.copy 36),
    o2 38 (.idx .nil) 4 true,
    o2 39 (.load 9 [] 0 (.t 38) 1 false) 4 true,
    o2 40 (.copy 2) 4 true,
    o2 41 (.data (.bin .neq) [.t 39, .t 40]) 4 true,
    ⟨false, [], [], .pick 37 (.t 41) (.c (.bool false)), [42], (some 42), none⟩]))
  (.cond (.t 42)
   (.rg [⟨false, [], [], .det 2 (.copy 7), [43, 7], (some 43), none⟩,
     o1 44 (.idx .nil),
     o1 45 (.load 9 [] 0 (.t 44) 1 false),
     ⟨false, [], [], .call 2 49 [.t 43, .t 45] .no, [46, 43], (some 46), none⟩,
     ⟨false, [], [], .det 2 (.copy 46), [7, 46], (some 7), none⟩])
   .skip))))))
  (.rg [o1 47 (.data (.bin .add) [.t 15, .c (.int .i64 (1))]),
    o1 15 (.copy 47)]))))))))
 (.seq (.rg [o1 48 (.copy 1),
   o1 49 (.sli [.i .i64] [.t 48]),
   ⟨false, [], [], .det 2 (.copy 49), [10, 49], (some 10), none⟩])
 (.seq (.join [⟨10, [.sl [.i .i64]], false⟩] 73785850394931369088 none (.seq (.rg [⟨false, [], [], .det 2 (.copy 7), [50, 7], (some 50), none⟩,
   o1 51 (.len 50),
   o1 52 (.lit [.i .i64] [.int .i64 (0)])])
 (.block 2 (.loop [⟨10, [.sl [.i .i64]], false⟩, ⟨52, [.i .i64], false⟩] 73782472695210841088
  (.seq (.rg [o1 53 (.data (.bin .lss) [.t 52, .t 51])])
  (.seq (.cond (.t 53)
   .skip
   (.exit 2))
  (.seq (.block 3 (.seq (.rg [o1 54 (.index 50 (.t 52)),
    o1 55 (.load 50 [(0, 1)] 0 (.t 54) 1 false),
    o1 12 (.copy 55)])
  (.rg [⟨false, [], [], .det 2 (.copy 10), [56, 10], (some 56), none⟩,
    o1 57 (.copy 0),
    o1 58 (.copy 12),
    o1 59 (.copy 1),
    o3 60 45 [.t 57, .t 58, .t 59],
    ⟨false, [], [], .det 2 (.app (some 56) 60), [61, 56], (some 61), none⟩,
    o1 62 (.copy 1),
    o1 63 (.sli [.i .i64] [.t 62]),
    ⟨false, [], [], .det 2 (.app (some 61) 63), [64, 61], (some 64), none⟩,
    ⟨false, [], [], .det 2 (.copy 64), [10, 64], (some 10), none⟩])))
  (.rg [o1 65 (.data (.bin .add) [.t 52, .c (.int .i64 (1))]),
    o1 52 (.copy 65)]))))))))
 (.seq (.rg [⟨false, [], [], .det 2 (.copy 10), [66, 10], (some 66), none⟩,
   ⟨false, [], [], .det 2 (.copy 66), [6, 66], (some 6), none⟩])
 .ret))))))
def s_iwalk : Sig := ⟨[.rd false [.sl (.own none) [.d, .d]], .rd false [.d], .rd false [.d]], (.one false [.sl (.own none) [.d]])⟩
noncomputable def E_iwalk (q : (List (Int × Int)) × Int × Int → Option ((List (Int)) × Unit)) : TEnv := envOf [(49, p_iwith), (45, ⟨s_iwalk, [[.sl [.i .i64, .i .i64]], [.i .i64], [.i .i64]], [.sl [.i .i64]], [], Ou.j .no, q⟩)]
noncomputable def f_iwalk (q : (List (Int × Int)) × Int × Int → Option ((List (Int)) × Unit)) (n : Nat) : (List (Int × Int)) × Int × Int → Option ((List (Int)) × Unit) := runFn n (E_iwalk q) c_iwalk [[.sl [.i .i64, .i .i64]], [.i .i64], [.i .i64]] [.sl [.i .i64]] [] [6] .no
noncomputable def g_iwalk : Nat → (List (Int × Int)) × Int × Int → Option ((List (Int)) × Unit)
  | 0 => fun _ => none
  | d + 1 => f_iwalk (g_iwalk d) BIG
noncomputable def p_iwalk (d : Nat) : TSp := ⟨s_iwalk, [[.sl [.i .i64, .i .i64]], [.i .i64], [.i .i64]], [.sl [.i .i64]], [], Ou.j .no, (g_iwalk d)⟩
theorem k_iwalk (q : (List (Int × Int)) × Int × Int → Option ((List (Int)) × Unit)) : chkW PG (E_iwalk q) 45 s_iwalk (c_iwalk.ht 67) .no = some (c_iwalk.wc (E_iwalk q), [6]) := by kernel_rfl
theorem ok_iwalk : ∀ d : Nat, (p_iwalk d).Ok PG 45
  | 0 => fun _ _ _ h => by cases h
  | d + 1 => mkOk (env_cons ok_iwith (env_cons (ok_iwalk d) (env_nil PG))) (k_iwalk _) (by kernel_rfl)
theorem e_iwalk (q : (List (Int × Int)) × Int × Int → Option ((List (Int)) × Unit)) (n : Nat) (a0 : List (Int × Int)) (a1 : Int) (a2 : Int) : f_iwalk q n (a0, a1, a2) =
  Option.bind (loopT n (X := (List (Int)) × Int) (B := (List (Int))) (fun self1 x0 =>
    bif decide (x0.2 < (a0.length : Int)) then
     Option.bind (bnd a0.length x0.2 fun n2 =>
      Option.bind a0[n2]? fun y3 =>
      Option.bind (Option.bind (bif decide (y3.1 = a1) then
         some (!decide (y3.2 = a2))
        else some false : Option (Bool)) fun x4 =>
       bif x4 then
        Option.bind (g_iwith (x0.1, y3.2)) fun r5 =>
        some r5.1
       else some x0.1 : Option ((List (Int)))) fun x6 =>
      Option.bind (bif decide (y3.2 = a1) then
        some (!decide (y3.1 = a2))
       else some false : Option (Bool)) fun x7 =>
      bif x7 then
       Option.bind (g_iwith (x6, y3.1)) fun r8 =>
       some r8.1
      else some x6 : Option ((List (Int)))) fun x9 =>
     self1 (x9, IntKind.wrap .i64 (x0.2 + (1 : Int)))
    else some x0.1) ([], (0 : Int)) : Option ((List (Int)))) fun x10 =>
  Option.bind (loopT n (X := (List (Int)) × Int) (B := (List (Int))) (fun self12 x11 =>
    bif decide (x11.2 < (x10.length : Int)) then
     bnd x10.length x11.2 fun n13 =>
     Option.bind x10[n13]? fun y14 =>
     Option.bind (q (a0, y14, a1)) fun r15 =>
     bif decide (x11.1.length + r15.1.length ≤ 4294967296) then
      bif decide ((x11.1 ++ r15.1).length + [a1].length ≤ 4294967296) then
       self12 ((x11.1 ++ r15.1) ++ [a1], IntKind.wrap .i64 (x11.2 + (1 : Int)))
      else none
     else none
    else some x11.1) ([a1], (0 : Int)) : Option ((List (Int)))) fun x16 =>
  some (x16, ()) := by kernel_rfl
/- impl.TourOf -/
def c_iTourOf : TC :=
 (.seq (.rg [o1 6 (.lit [.sl [.i .i64]] [.slice none 0 0]),
   o1 7 (.lit [.b] [.bool false])])
 (.seq (.seq (.join [⟨19, [.b], false⟩] 1047552 none (.rg [o1 10 (.copy 0),
   o3 11 42 [.t 10, .c [.i .i64] [.int .i64 (1)], .c [.i .i64] [.int .i64 (12)]],
   o1 12 (.data .not [.t 11]),
   o1 13 (.copy 12),
   o2 14 (.copy 2) 3 false,
   o2 15 (.copy 0) 3 false,
   o2 16 (.data (.bin .sub) [.t 15, .c (.int .i64 (1))]) 3 false,
   ⟨false, [], [], .call 1 42 [.t 14, .c [.i .i64] [.int .i64 (0)], .t 16] .no, [17], (some 17), some (3, false)⟩,
   o2 18 (.data .not [.t 17]) 3 false,
   ⟨false, [], [], .pick 13 (.c (.bool true)) (.t 18), [19], (some 19), none⟩]))
 (.cond (.t 19)
  (.seq (.rg [o1 6 (.lit [.sl [.i .i64]] [.slice none 0 0]),
    o1 7 (.lit [.b] [.bool false])])
  .ret)
  .skip))
 (.seq (.join [] 2146435776 (some [⟨6, [.sl [.i .i64]], false⟩, ⟨7, [.b], false⟩]) (.seq (.rg [o1 20 (.copy 1),
   o1 21 (.len 20),
   o1 22 (.lit [.i .i64] [.int .i64 (0)])])
 (.block 0 (.loop [⟨22, [.i .i64], false⟩] 2143290048
  (.seq (.rg [o1 23 (.data (.bin .lss) [.t 22, .t 21])])
  (.seq (.cond (.t 23)
   .skip
   (.exit 0))
  (.seq (.block 1 (.seq (.rg [o1 24 (.index 20 (.t 22)),
    o1 25 (.load 20 [(0, 2)] 0 (.t 24) 2 false),
    ⟨false, [], [], .det 2 (.a (.c [.i .i64, .i .i64] [.int .i64 (0), .int .i64 (0)])), [9, 1000000001], (some 9), none⟩,
    o4 1 [9] (.store 9 [] 0 .nil (.t 25))])
  (.seq (.rg [o1 26 (.copy 0),
    o1 27 (.load 9 [] 0 .nil 2 false),
    o3 28 43 [.t 26, .t 27],
    o1 29 (.data .not [.t 28])])
  (.cond (.t 29)
   (.seq (.rg [o1 6 (.lit [.sl [.i .i64]] [.slice none 0 0]),
     o1 7 (.lit [.b] [.bool false])])
   .ret)
   .skip))))
  (.rg [o1 30 (.data (.bin .add) [.t 22, .c (.int .i64 (1))]),
    o1 22 (.copy 30)]))))))))
 (.seq (.seq (.rg [o1 31 (.copy 0),
   o1 32 (.copy 1),
   o3 33 44 [.t 31, .t 32]])
 (.cond (.t 33)
  (.seq (.rg [o1 6 (.lit [.sl [.i .i64]] [.slice none 0 0]),
    o1 7 (.lit [.b] [.bool false])])
  .ret)
  .skip))
 (.seq (.rg [o1 34 (.copy 1),
   o1 35 (.copy 2),
   o3 36 45 [.t 34, .t 35, .c [.i .i64] [.int .i64 (-1)]],
   ⟨false, [], [], .det 2 (.copy 36), [6, 36], (some 6), none⟩,
   o1 7 (.lit [.b] [.bool true])])
 .ret)))))
def s_iTourOf : Sig := ⟨[.rd false [.d], .rd false [.sl (.own none) [.d, .d]], .rd false [.d]], (.tup [(false, 1), (false, 1)] [.sl (.own none) [.d], .d])⟩
noncomputable def E_iTourOf : TEnv := envOf [(42, p_iin), (43, p_iEdgeOk), (44, p_irings), (45, p_iwalk 64)]
noncomputable def f_iTourOf (n : Nat) : Int × (List (Int × Int)) × Int → Option ((List (Int) × Bool) × Unit) := runFn n E_iTourOf c_iTourOf [[.i .i64], [.sl [.i .i64, .i .i64]], [.i .i64]] [.sl [.i .i64], .b] [] [6, 7] .no
noncomputable def g_iTourOf := f_iTourOf BIG
noncomputable def p_iTourOf : TSp := ⟨s_iTourOf, [[.i .i64], [.sl [.i .i64, .i .i64]], [.i .i64]], [.sl [.i .i64], .b], [], Ou.j .no, g_iTourOf⟩
theorem k_iTourOf : chkW PG E_iTourOf 10 s_iTourOf (c_iTourOf.ht 37) .no = some (c_iTourOf.wc E_iTourOf, [6, 7]) := by kernel_rfl
theorem ok_iTourOf : p_iTourOf.Ok PG 10 := mkOk (env_cons ok_iin (env_cons ok_iEdgeOk (env_cons ok_irings (env_cons (ok_iwalk 64) (env_nil PG))))) k_iTourOf (by kernel_rfl)
theorem e_iTourOf (n : Nat) (a0 : Int) (a1 : List (Int × Int)) (a2 : Int) : f_iTourOf n (a0, a1, a2) =
  Option.bind (Option.bind (g_iin (a0, (1 : Int), (12 : Int))) fun r0 =>
   bif !r0.1 then
    some true
   else Option.bind (g_iin (a2, (0 : Int), IntKind.wrap .i64 (a0 - (1 : Int)))) fun r1 =>
   some !r1.1 : Option (Bool)) fun x2 =>
  bif x2 then
   some (([], false), ())
  else Option.bind (loopT n (X := Int) (B := (Unit) ⊕ ((List (Int)) × Bool)) (fun self4 x3 =>
    bif decide (x3 < (a1.length : Int)) then
     bnd a1.length x3 fun n5 =>
     Option.bind a1[n5]? fun y6 =>
     Option.bind (g_iEdgeOk (a0, y6)) fun r7 =>
     bif !r7.1 then
      some (Sum.inr ([], false))
     else self4 (IntKind.wrap .i64 (x3 + (1 : Int)))
    else some (Sum.inl ())) (0 : Int) : Option ((Unit) ⊕ ((List (Int)) × Bool))) fun y => match y with
  | .inl x8 =>
   Option.bind (g_irings (a0, a1)) fun r9 =>
   bif r9.1 then
    some (([], false), ())
   else Option.bind (g_iwalk 64 (a1, a2, (-1 : Int))) fun r10 =>
   some ((r10.1, true), ())
  | .inr x8 =>
   some (x8, ()) := by kernel_rfl
end Go.Fw
