/- The given functions, as what they compute; each is shown to be what the code does. No conditions. -/
import Derived.Test.YtjjfihpihnifcaaX0
set_option linter.unusedVariables false
set_option linter.unusedSimpArgs false
namespace Go.Fw
/- spec.DrawReadAnswer -/
def c_sDrawReadAnswer : TC :=
 (.seq (.rg [o1 2 (.lit [.i .i64] [.int .i64 (0)]),
   o1 3 (.lit [.s] [.string ⟨#[]⟩])])
 (.seq (.rg [o1 8 (.copy 0),
   o3 9 39 [.t 8],
   o1 4 (.p0)])
 (.seq (.rg [o1 10 (.same 4),
   ⟨false, [], [], .call 2 75 [.t 9] (.mp 0), [11, 9], (some 11), none⟩,
   o1 5 (.copy 11)])
 (.seq (.rg [o1 13 (.copy 5),
   o1 14 (.same 4),
   o1 15 (.copy 5),
   ⟨false, [], [], .call 2 83 [.t 9, .t 15] (.mp 0), [16, 9], (some 16), none⟩,
   o3 17 82 [.t 13, .t 16],
   ⟨false, [], [], .det 2 (.copy 17), [12, 17], (some 12), none⟩,
   o1 18 (.ext 12 0 1),
   o1 19 (.ext 12 1 1),
   o1 6 (.copy 18),
   o1 7 (.copy 19)])
 (.seq (.join [⟨9, [.sl [.i .u8], .i .i64, .i .i64], false⟩, ⟨5, [.i .i64], false⟩] 32506400 none (.seq (.rg [o1 20 (.same 4),
   ⟨false, [], [], .call 2 52 [.t 9, .c [.i .i64] [.int .i64 (15)]] (.mp 0), [21, 9], (some 21), none⟩])
 (.cond (.t 21)
  (.rg [o1 22 (.same 4),
    ⟨false, [], [], .det 5 (.sli [.i .i64] [.c [.i .i64] [.int .i64 (-1)], .c [.i .i64] [.int .i64 (0)], .c [.i .i64] [.int .i64 (13)], .c [.i .i64] [.int .i64 (9223372036854775807)]]), [23, 1000000001, 1000000002, 1000000003, 1000000004], (some 23), none⟩,
    ⟨false, [], [], .call 2 84 [.t 9, .t 23] (.mp 0), [24, 9], (some 24), none⟩,
    o1 5 (.copy 24)])
  .skip)))
 (.seq (.rg [o1 25 (.copy 5),
   o1 26 (.same 4),
   o1 27 (.copy 6),
   ⟨false, [], [], .call 2 78 [.t 9, .t 27] (.mp 0), [28, 9], (some 28), none⟩,
   o1 2 (.copy 25),
   o1 3 (.copy 28)])
 .ret))))))
def s_sDrawReadAnswer : Sig := ⟨[.rd false [.sl (.own none) [.d]]], (.tup [(false, 1), (false, 1)] [.d, .d])⟩
noncomputable def E_sDrawReadAnswer : TEnv := envOf [(39, p_sl01New), (75, p_sl09N), (83, p_sl09AnyAnswer), (82, p_sAnswerText), (52, p_sl01Once), (84, p_sl01PickInt), (78, p_sl02Spoilt)]
noncomputable def f_sDrawReadAnswer (n : Nat) : List (Int) → Option ((Int × ByteArray) × Unit) := runFn n E_sDrawReadAnswer c_sDrawReadAnswer [[.sl [.i .u8]]] [.i .i64, .s] [] [2, 3] .no
noncomputable def g_sDrawReadAnswer := f_sDrawReadAnswer BIG
noncomputable def p_sDrawReadAnswer : TSp := ⟨s_sDrawReadAnswer, [[.sl [.i .u8]]], [.i .i64, .s], [], Ou.j .no, g_sDrawReadAnswer⟩
theorem k_sDrawReadAnswer : chkW PG E_sDrawReadAnswer 32 s_sDrawReadAnswer (c_sDrawReadAnswer.ht 29) .no = some (c_sDrawReadAnswer.wc E_sDrawReadAnswer, [2, 3]) := by kernel_rfl
theorem ok_sDrawReadAnswer : p_sDrawReadAnswer.Ok PG 32 := mkOk (env_cons ok_sl01New (env_cons ok_sl09N (env_cons ok_sl09AnyAnswer (env_cons ok_sAnswerText (env_cons ok_sl01Once (env_cons ok_sl01PickInt (env_cons ok_sl02Spoilt (env_nil PG)))))))) k_sDrawReadAnswer (by kernel_rfl)
theorem e_sDrawReadAnswer (n : Nat) (a0 : List (Int)) : f_sDrawReadAnswer n a0 =
  Option.bind (g_sl01New a0) fun r0 =>
  Option.bind (g_sl09N r0.1) fun r1 =>
  Option.bind (g_sl09AnyAnswer (r1.2, r1.1)) fun r2 =>
  Option.bind (g_sAnswerText (r1.1, r2.1)) fun r3 =>
  Option.bind (Option.bind (g_sl01Once (r2.2, (15 : Int))) fun r4 =>
   bif r4.1 then
    Option.bind (g_sl01PickInt (r4.2, [(-1 : Int), (0 : Int), (13 : Int), (9223372036854775807 : Int)])) fun r5 =>
    some (r5.2, r5.1)
   else some (r4.2, r1.1) : Option ((List (Int) × Int × Int) × Int)) fun x6 =>
  Option.bind (g_sl02Spoilt (x6.1, r3.1.1)) fun r7 =>
  some ((x6.2, r7.1), ()) := by kernel_rfl
/- spec.ReadAnswer -/
def c_sReadAnswer : TC :=
 (.seq (.rg [⟨false, [], [], .det 2 (.a (.c [.i .i64, .b, .sl [.i .i64, .i .i64], .sl [.i .i64]] [.int .i64 (0), .bool false, .slice none 0 0, .slice none 0 0])), [4, 1000000001], (some 4), none⟩,
   o1 5 (.lit [.b] [.bool false])])
 (.seq (.rg [o1 11 (.copy 1),
   o1 12 (.build [.s, .i .i64, .b] [(0, .t 11)]),
   o1 13 (.a (.t 12)),
   o1 6 (.p0)])
 (.seq (.rg [o1 14 (.same 6),
   ⟨false, [], [], .call 2 79 [.t 13] (.mp 0), [15, 13], (some 15), none⟩,
   o1 16 (.build [.i .i64, .b, .sl [.i .i64, .i .i64], .sl [.i .i64]] [(0, .t 15)]),
   ⟨false, [], [], .det 2 (.a (.c [.i .i64, .b, .sl [.i .i64, .i .i64], .sl [.i .i64]] [.int .i64 (0), .bool false, .slice none 0 0, .slice none 0 0])), [7, 1000000001], (some 7), none⟩,
   o4 2 [7, 16] (.store 7 [] 0 .nil (.t 16))])
 (.seq (.rg [o1 17 (.same 6),
   ⟨false, [], [], .call 2 80 [.t 13] (.mp 0), [18, 13], (some 18), none⟩,
   o1 19 (.data (.bin .eql) [.t 18, .c (.int .i64 (1))]),
   o1 20 (.idx .nil),
   o4 1 [7] (.store 7 [] 1 (.t 20) (.t 19))])
 (.seq (.rg [o1 21 (.same 6),
   ⟨false, [], [], .call 2 81 [.t 13] (.mp 0), [22, 13], (some 22), none⟩,
   o1 23 (.idx .nil),
   o4 2 [7, 22] (.store 7 [] 2 (.t 23) (.t 22))])
 (.seq (.join [⟨13, [.s, .i .i64, .b], false⟩, ⟨7, [.i .i64, .b, .sl [.i .i64, .i .i64], .sl [.i .i64]], false⟩] 140737471586688 none (.seq (.rg [o1 8 (.lit [.i .i64] [.int .i64 (0)])])
 (.block 0 (.loop [⟨13, [.s, .i .i64, .b], false⟩, ⟨7, [.i .i64, .b, .sl [.i .i64, .i .i64], .sl [.i .i64]], false⟩, ⟨8, [.i .i64], false⟩] 140737471586688
  (.seq (.seq (.join [⟨37, [.b], false⟩] 274861129728 none (.rg [o1 24 (.copy 8),
    o1 25 (.copy 0),
    o1 26 (.data (.bin .lss) [.t 24, .t 25]),
    o1 27 (.copy 26),
    o2 28 (.copy 8) 3 true,
    o2 29 (.data (.bin .lss) [.t 28, .c (.int .i64 (12))]) 3 true,
    ⟨false, [], [], .pick 27 (.t 29) (.c (.bool false)), [30], (some 30), none⟩,
    o1 31 (.copy 30),
    o2 32 (.same 6) 7 true,
    o2 33 (.same 32) 7 true,
    o2 34 (.idx (.t 33)) 7 true,
    o2 35 (.load 13 [] 2 (.t 34) 1 false) 7 true,
    o2 36 (.data .not [.t 35]) 7 true,
    ⟨false, [], [], .pick 31 (.t 36) (.c (.bool false)), [37], (some 37), none⟩]))
  (.cond (.t 37)
   .skip
   (.exit 0)))
  (.seq (.block 1 (.rg [o1 42 (.same 6),
    ⟨false, [], [13], .det 1 (.idx .nil), [40], (some 40), none⟩,
    ⟨false, [], [13], .det 1 (.load 7 [] 3 (.t 40) 1 true), [41], (some 41), none⟩,
    ⟨false, [], [], .call 2 80 [.t 13] (.mp 0), [43, 13], (some 43), none⟩,
    o1 44 (.sli [.i .i64] [.t 43]),
    ⟨false, [41], [], .det 2 (.app (some 41) 44), [45, 41, 41, 7], (some 45), none⟩,
    o1 46 (.idx .nil),
    o4 2 [7, 45, 41] (.store 7 [] 3 (.t 46) (.t 45))]))
  (.rg [o1 38 (.copy 8),
    o1 39 (.data (.bin .add) [.t 38, .c (.int .i64 (1))]),
    o1 8 (.copy 39)])))))))
 (.seq (.rg [o1 48 (.copy 0),
   o1 49 (.load 7 [] 0 .nil 4 true),
   o3 50 82 [.t 48, .t 49],
   ⟨false, [], [], .det 2 (.copy 50), [47, 50], (some 47), none⟩,
   o1 51 (.ext 47 0 1),
   o1 52 (.ext 47 1 1),
   o1 9 (.copy 51),
   o1 10 (.copy 52)])
 (.seq (.seq (.join [⟨65, [.b], false⟩] 73777969095583465472 none (.rg [o1 53 (.same 6),
   o1 54 (.same 53),
   o1 55 (.idx (.t 54)),
   o1 56 (.load 13 [] 2 (.t 55) 1 false),
   o1 57 (.copy 56),
   o2 58 (.copy 10) 4 false,
   o2 59 (.data .not [.t 58]) 4 false,
   ⟨false, [], [], .pick 57 (.c (.bool true)) (.t 59), [60], (some 60), none⟩,
   o1 61 (.copy 60),
   o2 62 (.copy 9) 8 false,
   o2 63 (.copy 1) 8 false,
   o2 64 (.data (.bin .neq) [.t 62, .t 63]) 8 false,
   ⟨false, [], [], .pick 61 (.c (.bool true)) (.t 64), [65], (some 65), none⟩]))
 (.cond (.t 65)
  (.seq (.rg [o1 66 (.build [.i .i64, .b, .sl [.i .i64, .i .i64], .sl [.i .i64]] []),
    o4 2 [4, 66] (.store 4 [] 0 .nil (.t 66)),
    o1 5 (.lit [.b] [.bool false])])
  .ret)
  .skip))
 (.seq (.rg [o1 67 (.load 7 [] 0 .nil 4 true),
   ⟨false, [67], [], .det 2 (.store 4 [] 0 .nil (.t 67)), [4, 67, 67, 7, 49], none, none⟩,
   o1 5 (.lit [.b] [.bool true])])
 .ret)))))))))
def s_sReadAnswer : Sig := ⟨[.rd false [.d], .rd false [.d]], (.tup [(true, 4), (false, 1)] [.d, .d, .sl (.own none) [.d, .d], .sl (.own none) [.d], .d])⟩
noncomputable def E_sReadAnswer : TEnv := envOf [(79, p_sl09Var), (80, p_sl09One), (81, p_sl09ReadEdges), (82, p_sAnswerText)]
noncomputable def f_sReadAnswer (n : Nat) : Int × ByteArray → Option ((Int × Bool × List (Int × Int) × List (Int) × Bool) × Unit) := runFn n E_sReadAnswer c_sReadAnswer [[.i .i64], [.s]] [.i .i64, .b, .sl [.i .i64, .i .i64], .sl [.i .i64], .b] [] [4, 5] .no
noncomputable def g_sReadAnswer := f_sReadAnswer BIG
noncomputable def p_sReadAnswer : TSp := ⟨s_sReadAnswer, [[.i .i64], [.s]], [.i .i64, .b, .sl [.i .i64, .i .i64], .sl [.i .i64], .b], [], Ou.j .no, g_sReadAnswer⟩
theorem k_sReadAnswer : chkW PG E_sReadAnswer 33 s_sReadAnswer (c_sReadAnswer.ht 68) .no = some (c_sReadAnswer.wc E_sReadAnswer, [4, 5]) := by kernel_rfl
theorem ok_sReadAnswer : p_sReadAnswer.Ok PG 33 := mkOk (env_cons ok_sl09Var (env_cons ok_sl09One (env_cons ok_sl09ReadEdges (env_cons ok_sAnswerText (env_nil PG))))) k_sReadAnswer (by kernel_rfl)
theorem e_sReadAnswer (n : Nat) (a0 : Int) (a1 : ByteArray) : f_sReadAnswer n (a0, a1) =
  Option.bind (g_sl09Var (a1, (0 : Int), false)) fun r0 =>
  Option.bind (g_sl09One r0.2) fun r1 =>
  Option.bind (g_sl09ReadEdges r1.2) fun r2 =>
  Option.bind (loopT n (X := (ByteArray × Int × Bool) × (Int × Bool × List (Int × Int) × List (Int)) × Int) (B := (ByteArray × Int × Bool) × (Int × Bool × List (Int × Int) × List (Int))) (fun self4 x3 =>
    Option.bind (bif decide (x3.2.2 < a0) then
      bif decide (x3.2.2 < (12 : Int)) then
       some !x3.1.2.2
      else some false
     else some false : Option (Bool)) fun x5 =>
    bif x5 then
     Option.bind (g_sl09One x3.1) fun r6 =>
     bif decide (x3.2.1.2.2.2.length + [r6.1].length ≤ 4294967296) then
      self4 (r6.2, (x3.2.1.1, x3.2.1.2.1, x3.2.1.2.2.1, x3.2.1.2.2.2 ++ [r6.1]), IntKind.wrap .i64 (x3.2.2 + (1 : Int)))
     else none
    else some (x3.1, x3.2.1)) (r2.2, (r0.1, decide (r1.1 = (1 : Int)), r2.1, []), (0 : Int)) : Option ((ByteArray × Int × Bool) × (Int × Bool × List (Int × Int) × List (Int)))) fun x7 =>
  Option.bind (g_sAnswerText (a0, x7.2)) fun r8 =>
  Option.bind (bif x7.1.2.2 then
    some true
   else bif !r8.1.2 then
    some true
   else some (!(r8.1.1.toList == a1.toList)) : Option (Bool)) fun x9 =>
  bif x9 then
   some (((0 : Int), false, [], [], false), ())
  else some ((x7.2.1, x7.2.2.1, x7.2.2.2.1, x7.2.2.2.2, true), ()) := by kernel_rfl
/- laws.FnOrders -/
def c_lFnOrders : TC :=
 (.seq (.rg [o1 2 (.lit [.b] [.bool false])])
 (.seq (.seq (.rg [o1 31 (.copy 0),
   o3 32 7 [.t 31]])
 (.cond (.t 32)
  (.seq (.rg [o1 2 (.lit [.b] [.bool true])])
  .ret)
  .skip))
 (.seq (.rg [o1 34 (.copy 0),
   o3 35 19 [.t 34],
   ⟨false, [], [], .det 2 (.copy 35), [33, 35], (some 33), none⟩,
   o1 36 (.ext 33 0 1),
   ⟨false, [], [], .det 2 (.ext 33 1 4), [37, 33], (some 37), none⟩,
   ⟨false, [], [], .det 2 (.a (.c [.i .i64, .i .i64, .sl [.i .i64, .i .i64], .i .i64] [.int .i64 (0), .int .i64 (0), .slice none 0 0, .int .i64 (0)])), [4, 1000000001], (some 4), none⟩,
   o1 3 (.copy 36),
   o4 2 [4, 37] (.store 4 [] 0 .nil (.t 37))])
 (.seq (.rg [o1 39 (.copy 3),
   o1 40 (.load 4 [] 0 .nil 4 true),
   o3 41 20 [.t 39, .t 40],
   ⟨false, [], [], .det 2 (.copy 41), [38, 41], (some 38), none⟩,
   o1 42 (.ext 38 0 1),
   o1 43 (.ext 38 1 1),
   o1 5 (.copy 42),
   o1 6 (.copy 43)])
 (.seq (.rg [o1 45 (.copy 3),
   o1 46 (.copy 5),
   o3 47 21 [.t 45, .t 46],
   ⟨false, [], [], .det 2 (.copy 47), [44, 47], (some 44), none⟩,
   ⟨false, [], [], .det 2 (.ext 44 0 4), [48, 44], (some 48), none⟩,
   o1 49 (.ext 44 4 1),
   ⟨false, [], [], .det 2 (.a (.c [.i .i64, .i .i64, .sl [.i .i64, .i .i64], .i .i64] [.int .i64 (0), .int .i64 (0), .slice none 0 0, .int .i64 (0)])), [7, 1000000001], (some 7), none⟩,
   o4 2 [7, 48] (.store 7 [] 0 .nil (.t 48)),
   o1 8 (.copy 49)])
 (.seq (.seq (.join [⟨97, [.b], false⟩] 316912650057056224474268958720 none (.rg [o1 50 (.copy 6),
   o1 51 (.copy 3),
   o1 52 (.load 4 [] 0 .nil 4 true),
   o3 53 22 [.t 51, .t 52],
   o1 54 (.data (.beq true) [.t 50, .t 53]),
   o1 55 (.copy 54),
   o2 56 (.copy 3) 5 false,
   o2 57 (.load 4 [] 0 .nil 4 true) 5 false,
   ⟨false, [], [], .call 1 23 [.t 56, .t 57] .no, [58], (some 58), some (5, false)⟩,
   o2 59 (.copy 6) 5 false,
   o2 60 (.data (.beq true) [.t 58, .t 59]) 5 false,
   ⟨false, [], [], .pick 55 (.c (.bool true)) (.t 60), [61], (some 61), none⟩,
   o1 62 (.copy 61),
   o2 63 (.copy 6) 12 false,
   o2 64 (.copy 63) 12 false,
   o2 65 (.copy 8) 14 true,
   o2 66 (.data .not [.t 65]) 14 true,
   o2 67 (.copy 66) 14 true,
   o2 68 (.idx .nil) 17 false,
   o2 69 (.load 7 [] 0 (.t 68) 1 false) 17 false,
   o2 70 (.idx .nil) 17 false,
   o2 71 (.load 4 [] 0 (.t 70) 1 false) 17 false,
   o2 72 (.data (.bin .neq) [.t 69, .t 71]) 17 false,
   ⟨false, [], [], .pick 67 (.c (.bool true)) (.t 72), [73], (some 73), some (14, true)⟩,
   o2 74 (.copy 73) 14 true,
   o2 75 (.idx .nil) 24 false,
   o2 76 (.load 7 [] 1 (.t 75) 1 false) 24 false,
   o2 77 (.idx .nil) 24 false,
   o2 78 (.load 4 [] 1 (.t 77) 1 false) 24 false,
   o2 79 (.data (.bin .neq) [.t 76, .t 78]) 24 false,
   ⟨false, [], [], .pick 74 (.c (.bool true)) (.t 79), [80], (some 80), some (14, true)⟩,
   o2 81 (.copy 80) 14 true,
   o2 82 (.idx .nil) 31 false,
   o2 83 (.load 7 [] 3 (.t 82) 1 false) 31 false,
   o2 84 (.idx .nil) 31 false,
   o2 85 (.load 4 [] 3 (.t 84) 1 false) 31 false,
   o2 86 (.data (.bin .neq) [.t 83, .t 85]) 31 false,
   ⟨false, [], [], .pick 81 (.c (.bool true)) (.t 86), [87], (some 87), some (14, true)⟩,
   o2 88 (.copy 87) 14 true,
   o2 89 (.idx .nil) 38 false,
   o2 90 (.load 7 [] 2 (.t 89) 1 true) 38 false,
   o2 91 (.idx .nil) 38 false,
   o2 92 (.load 4 [] 2 (.t 91) 1 true) 38 false,
   ⟨false, [], [], .call 1 17 [.t 90, .t 92] .no, [93], (some 93), some (38, false)⟩,
   o2 94 (.data .not [.t 93]) 38 false,
   ⟨false, [], [], .pick 88 (.c (.bool true)) (.t 94), [95], (some 95), some (14, true)⟩,
   ⟨false, [], [], .pick 64 (.t 95) (.c (.bool false)), [96], (some 96), some (12, false)⟩,
   ⟨false, [], [], .pick 62 (.c (.bool true)) (.t 96), [97], (some 97), none⟩]))
 (.cond (.t 97)
  (.seq (.rg [o1 2 (.lit [.b] [.bool false])])
  .ret)
  .skip))
 (.seq (.rg [o1 99 (.copy 0),
   o3 100 24 [.t 99],
   ⟨false, [], [], .det 2 (.copy 100), [98, 100], (some 98), none⟩,
   o1 101 (.ext 98 0 1),
   ⟨false, [], [], .det 2 (.ext 98 1 4), [102, 98], (some 102), none⟩,
   ⟨false, [], [], .det 2 (.a (.c [.i .i64, .b, .sl [.i .i64, .i .i64], .sl [.i .i64]] [.int .i64 (0), .bool false, .slice none 0 0, .slice none 0 0])), [10, 1000000001], (some 10), none⟩,
   o1 9 (.copy 101),
   o4 2 [10, 102] (.store 10 [] 0 .nil (.t 102))])
 (.seq (.rg [o1 104 (.copy 9),
   o1 105 (.load 10 [] 0 .nil 4 true),
   o3 106 25 [.t 104, .t 105],
   ⟨false, [], [], .det 2 (.copy 106), [103, 106], (some 103), none⟩,
   o1 107 (.ext 103 0 1),
   o1 108 (.ext 103 1 1),
   o1 11 (.copy 107),
   o1 12 (.copy 108)])
 (.seq (.rg [o1 110 (.copy 9),
   o1 111 (.copy 11),
   o3 112 26 [.t 110, .t 111],
   ⟨false, [], [], .det 2 (.copy 112), [109, 112], (some 109), none⟩,
   ⟨false, [], [], .det 2 (.ext 109 0 4), [113, 109], (some 113), none⟩,
   o1 114 (.ext 109 4 1),
   ⟨false, [], [], .det 2 (.a (.c [.i .i64, .b, .sl [.i .i64, .i .i64], .sl [.i .i64]] [.int .i64 (0), .bool false, .slice none 0 0, .slice none 0 0])), [13, 1000000001], (some 13), none⟩,
   o4 2 [13, 113] (.store 13 [] 0 .nil (.t 113)),
   o1 14 (.copy 114)])
 (.seq (.seq (.join [⟨139, [.b], false⟩] 1393796533369789078067361363796551960363008 none (.rg [o1 115 (.copy 12),
   o1 116 (.copy 9),
   o1 117 (.load 10 [] 0 .nil 4 true),
   o3 118 27 [.t 116, .t 117],
   o1 119 (.data (.beq true) [.t 115, .t 118]),
   o1 120 (.copy 119),
   o2 121 (.copy 9) 5 false,
   o2 122 (.load 10 [] 0 .nil 4 true) 5 false,
   ⟨false, [], [], .call 1 28 [.t 121, .t 122] .no, [123], (some 123), some (5, false)⟩,
   o2 124 (.copy 12) 5 false,
   o2 125 (.data (.beq true) [.t 123, .t 124]) 5 false,
   ⟨false, [], [], .pick 120 (.c (.bool true)) (.t 125), [126], (some 126), none⟩,
   o1 127 (.copy 126),
   o2 128 (.copy 12) 12 false,
   o2 129 (.copy 128) 12 false,
   o2 130 (.copy 14) 14 true,
   o2 131 (.data .not [.t 130]) 14 true,
   o2 132 (.copy 131) 14 true,
   o2 133 (.load 10 [] 0 .nil 4 true) 17 false,
   o2 134 (.load 13 [] 0 .nil 4 true) 17 false,
   ⟨false, [], [], .call 1 29 [.t 133, .t 134] .no, [135], (some 135), some (17, false)⟩,
   o2 136 (.data .not [.t 135]) 17 false,
   ⟨false, [], [], .pick 132 (.c (.bool true)) (.t 136), [137], (some 137), some (14, true)⟩,
   ⟨false, [], [], .pick 129 (.t 137) (.c (.bool false)), [138], (some 138), some (12, false)⟩,
   ⟨false, [], [], .pick 127 (.c (.bool true)) (.t 138), [139], (some 139), none⟩]))
 (.cond (.t 139)
  (.seq (.rg [o1 2 (.lit [.b] [.bool false])])
  .ret)
  .skip))
 (.seq (.rg [o1 141 (.copy 0),
   o3 142 30 [.t 141],
   ⟨false, [], [], .det 2 (.copy 142), [140, 142], (some 140), none⟩,
   o1 143 (.ext 140 0 1),
   o1 144 (.ext 140 1 1),
   o1 15 (.copy 143),
   o1 16 (.copy 144)])
 (.seq (.rg [o1 146 (.copy 15),
   o1 147 (.copy 16),
   o3 148 21 [.t 146, .t 147],
   ⟨false, [], [], .det 2 (.copy 148), [145, 148], (some 145), none⟩,
   ⟨false, [], [], .det 2 (.ext 145 0 4), [149, 145], (some 149), none⟩,
   o1 150 (.ext 145 4 1),
   ⟨false, [], [], .det 2 (.a (.c [.i .i64, .i .i64, .sl [.i .i64, .i .i64], .i .i64] [.int .i64 (0), .int .i64 (0), .slice none 0 0, .int .i64 (0)])), [17, 1000000001], (some 17), none⟩,
   o4 2 [17, 149] (.store 17 [] 0 .nil (.t 149)),
   o1 18 (.copy 150)])
 (.seq (.rg [o1 152 (.copy 15),
   o1 153 (.copy 16),
   o3 154 31 [.t 152, .t 153],
   ⟨false, [], [], .det 2 (.copy 154), [151, 154], (some 151), none⟩,
   ⟨false, [], [], .det 2 (.ext 151 0 4), [155, 151], (some 155), none⟩,
   o1 156 (.ext 151 4 1),
   ⟨false, [], [], .det 2 (.a (.c [.i .i64, .i .i64, .sl [.i .i64, .i .i64], .i .i64] [.int .i64 (0), .int .i64 (0), .slice none 0 0, .int .i64 (0)])), [19, 1000000001], (some 19), none⟩,
   o4 2 [19, 155] (.store 19 [] 0 .nil (.t 155)),
   o1 20 (.copy 156)])
 (.seq (.rg [o1 158 (.copy 15),
   o1 159 (.load 17 [] 0 .nil 4 true),
   o3 160 20 [.t 158, .t 159],
   ⟨false, [], [], .det 2 (.copy 160), [157, 160], (some 157), none⟩,
   o1 161 (.ext 157 0 1),
   o1 162 (.ext 157 1 1),
   o1 21 (.copy 161),
   o1 22 (.copy 162)])
 (.seq (.rg [o1 164 (.copy 0),
   o3 165 32 [.t 164],
   ⟨false, [], [], .det 2 (.copy 165), [163, 165], (some 163), none⟩,
   o1 166 (.ext 163 0 1),
   o1 167 (.ext 163 1 1),
   o1 23 (.copy 166),
   o1 24 (.copy 167)])
 (.seq (.rg [o1 169 (.copy 23),
   o1 170 (.copy 24),
   o3 171 26 [.t 169, .t 170],
   ⟨false, [], [], .det 2 (.copy 171), [168, 171], (some 168), none⟩,
   ⟨false, [], [], .det 2 (.ext 168 0 4), [172, 168], (some 172), none⟩,
   o1 173 (.ext 168 4 1),
   ⟨false, [], [], .det 2 (.a (.c [.i .i64, .b, .sl [.i .i64, .i .i64], .sl [.i .i64]] [.int .i64 (0), .bool false, .slice none 0 0, .slice none 0 0])), [25, 1000000001], (some 25), none⟩,
   o4 2 [25, 172] (.store 25 [] 0 .nil (.t 172)),
   o1 26 (.copy 173)])
 (.seq (.rg [o1 175 (.copy 23),
   o1 176 (.copy 24),
   o3 177 33 [.t 175, .t 176],
   ⟨false, [], [], .det 2 (.copy 177), [174, 177], (some 174), none⟩,
   ⟨false, [], [], .det 2 (.ext 174 0 4), [178, 174], (some 178), none⟩,
   o1 179 (.ext 174 4 1),
   ⟨false, [], [], .det 2 (.a (.c [.i .i64, .b, .sl [.i .i64, .i .i64], .sl [.i .i64]] [.int .i64 (0), .bool false, .slice none 0 0, .slice none 0 0])), [27, 1000000001], (some 27), none⟩,
   o4 2 [27, 178] (.store 27 [] 0 .nil (.t 178)),
   o1 28 (.copy 179)])
 (.seq (.rg [o1 181 (.copy 23),
   o1 182 (.load 25 [] 0 .nil 4 true),
   o3 183 25 [.t 181, .t 182],
   ⟨false, [], [], .det 2 (.copy 183), [180, 183], (some 180), none⟩,
   o1 184 (.ext 180 0 1),
   o1 185 (.ext 180 1 1),
   o1 29 (.copy 184),
   o1 30 (.copy 185)])
 (.seq (.join [⟨2, [.b], false⟩] 6582018131205109553202989795295192282311155710935015633643896836 none (.rg [o1 186 (.copy 18),
   o1 187 (.copy 20),
   o1 188 (.data (.beq false) [.t 186, .t 187]),
   o1 189 (.copy 188),
   o2 190 (.copy 18) 3 true,
   o2 191 (.data .not [.t 190]) 3 true,
   o2 192 (.copy 191) 3 true,
   o2 193 (.copy 21) 6 false,
   o2 194 (.copy 16) 6 false,
   o2 195 (.data (.bin .eql) [.t 193, .t 194]) 6 false,
   ⟨false, [], [], .pick 192 (.c (.bool true)) (.t 195), [196], (some 196), some (3, true)⟩,
   ⟨false, [], [], .pick 189 (.t 196) (.c (.bool false)), [197], (some 197), none⟩,
   o1 198 (.copy 197),
   o2 199 (.copy 26) 12 true,
   o2 200 (.copy 28) 12 true,
   o2 201 (.data (.beq false) [.t 199, .t 200]) 12 true,
   ⟨false, [], [], .pick 198 (.t 201) (.c (.bool false)), [202], (some 202), none⟩,
   o1 203 (.copy 202),
   o2 204 (.copy 26) 17 true,
   o2 205 (.data .not [.t 204]) 17 true,
   o2 206 (.copy 205) 17 true,
   o2 207 (.copy 29) 20 false,
   o2 208 (.copy 24) 20 false,
   o2 209 (.data (.bin .eql) [.t 207, .t 208]) 20 false,
   ⟨false, [], [], .pick 206 (.c (.bool true)) (.t 209), [210], (some 210), some (17, true)⟩,
   ⟨false, [], [], .pick 203 (.t 210) (.c (.bool false)), [211], (some 211), none⟩,
   o1 2 (.copy 211)]))
 .ret)))))))))))))))))))
def s_lFnOrders : Sig := ⟨[.rd false [.sl (.own none) [.d]]], (.one false [.d])⟩
noncomputable def E_lFnOrders : TEnv := envOf [(7, p_lbig), (19, p_sDrawOrderText), (20, p_iOrderText), (21, p_iReadOrder), (22, p_sOrderOk), (23, p_iOrderOk), (17, p_lsameEdges), (24, p_sDrawAnswerText), (25, p_iAnswerText), (26, p_iReadAnswer), (27, p_sAnswerOk), (28, p_iAnswerOk), (29, p_lsameAnswer), (30, p_sDrawReadOrder), (31, p_sReadOrder), (32, p_sDrawReadAnswer), (33, p_sReadAnswer)]
noncomputable def f_lFnOrders (n : Nat) : List (Int) → Option ((Bool) × Unit) := runFn n E_lFnOrders c_lFnOrders [[.sl [.i .u8]]] [.b] [] [2] .no
noncomputable def g_lFnOrders := f_lFnOrders BIG
noncomputable def p_lFnOrders : TSp := ⟨s_lFnOrders, [[.sl [.i .u8]]], [.b], [], Ou.j .no, g_lFnOrders⟩
theorem k_lFnOrders : chkW PG E_lFnOrders 5 s_lFnOrders (c_lFnOrders.ht 212) .no = some (c_lFnOrders.wc E_lFnOrders, [2]) := by kernel_rfl
theorem ok_lFnOrders : p_lFnOrders.Ok PG 5 := mkOk (env_cons ok_lbig (env_cons ok_sDrawOrderText (env_cons ok_iOrderText (env_cons ok_iReadOrder (env_cons ok_sOrderOk (env_cons ok_iOrderOk (env_cons ok_lsameEdges (env_cons ok_sDrawAnswerText (env_cons ok_iAnswerText (env_cons ok_iReadAnswer (env_cons ok_sAnswerOk (env_cons ok_iAnswerOk (env_cons ok_lsameAnswer (env_cons ok_sDrawReadOrder (env_cons ok_sReadOrder (env_cons ok_sDrawReadAnswer (env_cons ok_sReadAnswer (env_nil PG)))))))))))))))))) k_lFnOrders (by kernel_rfl)
theorem e_lFnOrders (n : Nat) (a0 : List (Int)) : f_lFnOrders n a0 =
  Option.bind (g_lbig a0) fun r0 =>
  bif r0.1 then
   some (true, ())
  else Option.bind (g_sDrawOrderText a0) fun r1 =>
  Option.bind (g_iOrderText (r1.1.1, r1.1.2)) fun r2 =>
  Option.bind (g_iReadOrder (r1.1.1, r2.1.1)) fun r3 =>
  Option.bind (Option.bind (g_sOrderOk (r1.1.1, r1.1.2)) fun r4 =>
   bif !(r2.1.2 == r4.1) then
    some true
   else Option.bind (g_iOrderOk (r1.1.1, r1.1.2)) fun r5 =>
   bif !(r5.1 == r2.1.2) then
    some true
   else bif r2.1.2 then
    bif !r3.1.2.2.2.2 then
     some true
    else bif !decide (r3.1.1 = r1.1.2.1) then
     some true
    else bif !decide (r3.1.2.1 = r1.1.2.2.1) then
     some true
    else bif !decide (r3.1.2.2.2.1 = r1.1.2.2.2.2) then
     some true
    else Option.bind (g_lsameEdges (r3.1.2.2.1, r1.1.2.2.2.1)) fun r6 =>
    some !r6.1
   else some false : Option (Bool)) fun x7 =>
  bif x7 then
   some (false, ())
  else Option.bind (g_sDrawAnswerText a0) fun r8 =>
  Option.bind (g_iAnswerText (r8.1.1, r8.1.2)) fun r9 =>
  Option.bind (g_iReadAnswer (r8.1.1, r9.1.1)) fun r10 =>
  Option.bind (Option.bind (g_sAnswerOk (r8.1.1, r8.1.2)) fun r11 =>
   bif !(r9.1.2 == r11.1) then
    some true
   else Option.bind (g_iAnswerOk (r8.1.1, r8.1.2)) fun r12 =>
   bif !(r12.1 == r9.1.2) then
    some true
   else bif r9.1.2 then
    bif !r10.1.2.2.2.2 then
     some true
    else Option.bind (g_lsameAnswer (r8.1.2, (r10.1.1, r10.1.2.1, r10.1.2.2.1, r10.1.2.2.2.1))) fun r13 =>
    some !r13.1
   else some false : Option (Bool)) fun x14 =>
  bif x14 then
   some (false, ())
  else Option.bind (g_sDrawReadOrder a0) fun r15 =>
  Option.bind (g_iReadOrder (r15.1.1, r15.1.2)) fun r16 =>
  Option.bind (g_sReadOrder (r15.1.1, r15.1.2)) fun r17 =>
  Option.bind (g_iOrderText (r15.1.1, (r16.1.1, r16.1.2.1, r16.1.2.2.1, r16.1.2.2.2.1))) fun r18 =>
  Option.bind (g_sDrawReadAnswer a0) fun r19 =>
  Option.bind (g_iReadAnswer (r19.1.1, r19.1.2)) fun r20 =>
  Option.bind (g_sReadAnswer (r19.1.1, r19.1.2)) fun r21 =>
  Option.bind (g_iAnswerText (r19.1.1, (r20.1.1, r20.1.2.1, r20.1.2.2.1, r20.1.2.2.2.1))) fun r22 =>
  Option.bind (bif (r16.1.2.2.2.2 == r17.1.2.2.2.2) then
    bif !r16.1.2.2.2.2 then
     bif (r20.1.2.2.2.2 == r21.1.2.2.2.2) then
      bif !r20.1.2.2.2.2 then
       some true
      else some (r22.1.1.toList == r19.1.2.toList)
     else some false
    else bif r18.1.1.toList == r15.1.2.toList then
     bif (r20.1.2.2.2.2 == r21.1.2.2.2.2) then
      bif !r20.1.2.2.2.2 then
       some true
      else some (r22.1.1.toList == r19.1.2.toList)
     else some false
    else some false
   else some false : Option (Bool)) fun x23 =>
  some (x23, ()) := by kernel_rfl
/- impl.first -/
def c_ifirst : TC :=
 (.seq (.rg [o1 2 (.lit [.sl [.i .i64]] [.slice none 0 0])])
 (.seq (.rg [o1 3 (.lit [.sl [.i .i64]] [.slice none 0 0])])
 (.seq (.join [⟨3, [.sl [.i .i64]], false⟩] 16376 none (.seq (.rg [o1 5 (.copy 0),
   o1 6 (.lit [.i .i64] [.int .i64 (0)])])
 (.block 0 (.loop [⟨3, [.sl [.i .i64]], false⟩, ⟨6, [.i .i64], false⟩] 16344
  (.seq (.rg [o1 7 (.data (.bin .lss) [.t 6, .t 5])])
  (.seq (.cond (.t 7)
   .skip
   (.exit 0))
  (.seq (.block 1 (.seq (.rg [o1 8 (.copy 6),
    o1 4 (.copy 8)])
  (.rg [⟨false, [], [], .det 2 (.copy 3), [9, 3], (some 9), none⟩,
    o1 10 (.copy 4),
    o1 11 (.sli [.i .i64] [.t 10]),
    ⟨false, [], [], .det 2 (.app (some 9) 11), [12, 9], (some 12), none⟩,
    ⟨false, [], [], .det 2 (.copy 12), [3, 12], (some 3), none⟩])))
  (.rg [o1 13 (.data (.bin .add) [.t 6, .c (.int .i64 (1))]),
    o1 6 (.copy 13)]))))))))
 (.seq (.rg [⟨false, [], [], .det 2 (.copy 3), [14, 3], (some 14), none⟩,
   ⟨false, [], [], .det 2 (.copy 14), [2, 14], (some 2), none⟩])
 .ret))))
def s_ifirst : Sig := ⟨[.rd false [.d]], (.one false [.sl (.own none) [.d]])⟩
noncomputable def E_ifirst : TEnv := envOf []
noncomputable def f_ifirst (n : Nat) : Int → Option ((List (Int)) × Unit) := runFn n E_ifirst c_ifirst [[.i .i64]] [.sl [.i .i64]] [] [2] .no
noncomputable def g_ifirst := f_ifirst BIG
noncomputable def p_ifirst : TSp := ⟨s_ifirst, [[.i .i64]], [.sl [.i .i64]], [], Ou.j .no, g_ifirst⟩
theorem k_ifirst : chkW PG E_ifirst 101 s_ifirst (c_ifirst.ht 15) .no = some (c_ifirst.wc E_ifirst, [2]) := by kernel_rfl
theorem ok_ifirst : p_ifirst.Ok PG 101 := mkOk (env_nil PG) k_ifirst (by kernel_rfl)
theorem e_ifirst (n : Nat) (a0 : Int) : f_ifirst n a0 =
  Option.bind (loopT n (X := (List (Int)) × Int) (B := (List (Int))) (fun self1 x0 =>
    bif decide (x0.2 < a0) then
     bif decide (x0.1.length + [x0.2].length ≤ 4294967296) then
      self1 (x0.1 ++ [x0.2], IntKind.wrap .i64 (x0.2 + (1 : Int)))
     else none
    else some x0.1) ([], (0 : Int)) : Option ((List (Int)))) fun x2 =>
  some (x2, ()) := by kernel_rfl
/- impl.union -/
def c_iunion : TC :=
 (.seq (.rg [o1 6 (.lit [.b] [.bool false])])
 (.seq (.rg [⟨true, [], [], .det 1 (.copy 0), [10], (some 10), none⟩,
   o1 11 (.copy 1),
   ⟨true, [], [], .det 1 (.copy 0), [14], (some 14), none⟩,
   o1 15 (.copy 2),
   o1 12 (.index 10 (.t 11)),
   o1 13 (.load 0 [(0, 1)] 0 (.t 12) 1 false),
   o1 16 (.index 14 (.t 15)),
   o1 17 (.load 0 [(0, 1)] 0 (.t 16) 1 false),
   o1 7 (.copy 13),
   o1 8 (.copy 17)])
 (.seq (.seq (.rg [o1 18 (.copy 7),
   o1 19 (.copy 8),
   o1 20 (.data (.bin .eql) [.t 18, .t 19])])
 (.cond (.t 20)
  (.seq (.rg [o1 6 (.lit [.b] [.bool false])])
  .ret)
  .skip))
 (.seq (.join [⟨0, [.sl [.i .i64]], false⟩] 2199021158913 none (.seq (.rg [⟨true, [], [], .det 1 (.copy 0), [21], (some 21), none⟩,
   o1 22 (.len 21),
   o1 23 (.lit [.i .i64] [.int .i64 (0)])])
 (.block 0 (.loop [⟨0, [.sl [.i .i64]], false⟩, ⟨23, [.i .i64], false⟩] 2199016982017
  (.seq (.rg [o1 24 (.data (.bin .lss) [.t 23, .t 22])])
  (.seq (.cond (.t 24)
   .skip
   (.exit 0))
  (.seq (.join [⟨0, [.sl [.i .i64]], false⟩] 1099478073857 none (.block 1 (.seq (.rg [o1 25 (.copy 23),
    o1 9 (.copy 25)])
  (.seq (.rg [⟨true, [], [], .det 1 (.copy 0), [26], (some 26), none⟩,
    o1 27 (.copy 9),
    o1 28 (.index 26 (.t 27)),
    o1 29 (.load 0 [(0, 1)] 0 (.t 28) 1 false),
    o1 30 (.copy 7),
    o1 31 (.copy 8),
    o1 32 (.data .max [.t 30, .t 31]),
    o1 33 (.data (.bin .eql) [.t 29, .t 32])])
  (.cond (.t 33)
   (.rg [⟨true, [], [], .det 1 (.copy 0), [34], (some 34), none⟩,
     o1 35 (.copy 9),
     o1 36 (.copy 7),
     o1 37 (.copy 8),
     o1 38 (.data .min [.t 36, .t 37]),
     o1 39 (.index 34 (.t 35)),
     o4 1 [0, 26, 34] (.store 0 [(0, 1)] 0 (.t 39) (.t 38))])
   .skip)))))
  (.rg [o1 40 (.data (.bin .add) [.t 23, .c (.int .i64 (1))]),
    o1 23 (.copy 40)]))))))))
 (.seq (.rg [o1 6 (.lit [.b] [.bool true])])
 .ret)))))
def s_iunion : Sig := ⟨[.mt false [.sl (.own none) [.d]], .rd false [.d], .rd false [.d]], (.one false [.d])⟩
noncomputable def E_iunion : TEnv := envOf []
noncomputable def f_iunion (n : Nat) : List (Int) × Int × Int → Option ((Bool) × List (Int)) := runFn n E_iunion c_iunion [[.sl [.i .i64]], [.i .i64], [.i .i64]] [.b] [.sl [.i .i64]] [6] (.mt 0 0 0)
noncomputable def g_iunion := f_iunion BIG
noncomputable def p_iunion : TSp := ⟨s_iunion, [[.sl [.i .i64]], [.i .i64], [.i .i64]], [.b], [.sl [.i .i64]], Ou.j (.mt 0 0 0), g_iunion⟩
theorem k_iunion : chkW PG E_iunion 102 s_iunion (c_iunion.ht 41) (.mt 0 0 0) = some (c_iunion.wc E_iunion, [6]) := by kernel_rfl
theorem ok_iunion : p_iunion.Ok PG 102 := mkOk (env_nil PG) k_iunion (by kernel_rfl)
theorem e_iunion (n : Nat) (a0 : List (Int)) (a1 : Int) (a2 : Int) : f_iunion n (a0, a1, a2) =
  bnd a0.length a1 fun n0 =>
  Option.bind a0[n0]? fun y1 =>
  bnd a0.length a2 fun n2 =>
  Option.bind a0[n2]? fun y3 =>
  bif decide (y1 = y3) then
   some (false, a0)
  else Option.bind (loopT n (X := (List (Int)) × Int) (B := (List (Int))) (fun self5 x4 =>
    bif decide (x4.2 < (a0.length : Int)) then
     Option.bind (bnd x4.1.length x4.2 fun n6 =>
      Option.bind x4.1[n6]? fun y7 =>
      bif decide (y7 = (if y3 > y1 then y3 else y1)) then
       bnd x4.1.length x4.2 fun n8 =>
       Option.bind x4.1[n8]? fun y9 =>
       some (x4.1.set n8 (if y3 < y1 then y3 else y1))
      else some x4.1 : Option ((List (Int)))) fun x10 =>
     self5 (x10, IntKind.wrap .i64 (x4.2 + (1 : Int)))
    else some x4.1) (a0, (0 : Int)) : Option ((List (Int)))) fun x11 =>
  some (true, x11) := by kernel_rfl
/- impl.rings -/
def c_irings : TC :=
 (.seq (.rg [o1 4 (.lit [.b] [.bool false])])
 (.seq (.rg [o1 8 (.copy 0),
   o3 9 101 [.t 8],
   ⟨false, [], [], .det 2 (.copy 9), [5, 9], (some 5), none⟩])
 (.seq (.join [] 16776368 (some [⟨4, [.b], false⟩]) (.seq (.rg [o1 10 (.copy 1),
   o1 11 (.len 10),
   o1 12 (.lit [.i .i64] [.int .i64 (0)])])
 (.block 0 (.loop [⟨5, [.sl [.i .i64]], false⟩, ⟨12, [.i .i64], false⟩] 16773296
  (.seq (.rg [o1 13 (.data (.bin .lss) [.t 12, .t 11])])
  (.seq (.cond (.t 13)
   .skip
   (.exit 0))
  (.seq (.block 1 (.seq (.rg [o1 14 (.index 10 (.t 12)),
    o1 15 (.load 10 [(0, 2)] 0 (.t 14) 2 false),
    ⟨false, [], [], .det 2 (.a (.c [.i .i64, .i .i64] [.int .i64 (0), .int .i64 (0)])), [7, 1000000001], (some 7), none⟩,
    o4 1 [7] (.store 7 [] 0 .nil (.t 15))])
  (.seq (.rg [⟨true, [], [], .det 1 (.copy 5), [16], (some 16), none⟩,
    o1 17 (.idx .nil),
    o1 18 (.load 7 [] 0 (.t 17) 1 false),
    o1 19 (.idx .nil),
    o1 20 (.load 7 [] 1 (.t 19) 1 false),
    ⟨false, [], [], .call 2 102 [.t 16, .t 18, .t 20] (.mt 5 [] 0 16 0), [21, 5, 16], (some 21), none⟩,
    o1 22 (.data .not [.t 21])])
  (.cond (.t 22)
   (.seq (.rg [o1 4 (.lit [.b] [.bool true])])
   .ret)
   .skip))))
  (.rg [o1 23 (.data (.bin .add) [.t 12, .c (.int .i64 (1))]),
    o1 12 (.copy 23)]))))))))
 (.seq (.rg [o1 4 (.lit [.b] [.bool false])])
 .ret))))
def s_irings : Sig := ⟨[.rd false [.d], .rd false [.sl (.own none) [.d, .d]]], (.one false [.d])⟩
noncomputable def E_irings : TEnv := envOf [(101, p_ifirst), (102, p_iunion)]
noncomputable def f_irings (n : Nat) : Int × (List (Int × Int)) → Option ((Bool) × Unit) := runFn n E_irings c_irings [[.i .i64], [.sl [.i .i64, .i .i64]]] [.b] [] [4] .no
noncomputable def g_irings := f_irings BIG
noncomputable def p_irings : TSp := ⟨s_irings, [[.i .i64], [.sl [.i .i64, .i .i64]]], [.b], [], Ou.j .no, g_irings⟩
theorem k_irings : chkW PG E_irings 44 s_irings (c_irings.ht 24) .no = some (c_irings.wc E_irings, [4]) := by kernel_rfl
theorem ok_irings : p_irings.Ok PG 44 := mkOk (env_cons ok_ifirst (env_cons ok_iunion (env_nil PG))) k_irings (by kernel_rfl)
theorem e_irings (n : Nat) (a0 : Int) (a1 : List (Int × Int)) : f_irings n (a0, a1) =
  Option.bind (g_ifirst a0) fun r0 =>
  Option.bind (loopT n (X := (List (Int)) × Int) (B := (Unit) ⊕ (Bool)) (fun self2 x1 =>
    bif decide (x1.2 < (a1.length : Int)) then
     bnd a1.length x1.2 fun n3 =>
     Option.bind a1[n3]? fun y4 =>
     Option.bind (g_iunion (x1.1, y4.1, y4.2)) fun r5 =>
     bif !r5.1 then
      some (Sum.inr true)
     else self2 (r5.2, IntKind.wrap .i64 (x1.2 + (1 : Int)))
    else some (Sum.inl ())) (r0.1, (0 : Int)) : Option ((Unit) ⊕ (Bool))) fun y => match y with
  | .inl x6 =>
   some (false, ())
  | .inr x6 =>
   some (x6, ()) := by kernel_rfl
/- impl.copyInts -/
def c_icopyInts : TC :=
 (.seq (.rg [o1 2 (.lit [.sl [.i .i64]] [.slice none 0 0])])
 (.seq (.rg [o1 3 (.copy 0),
   o1 4 (.app none 3),
   ⟨false, [], [], .det 2 (.copy 4), [2, 4], (some 2), none⟩])
 .ret))
def s_icopyInts : Sig := ⟨[.rd false [.sl (.own none) [.d]]], (.one false [.sl (.own none) [.d]])⟩
noncomputable def E_icopyInts : TEnv := envOf []
noncomputable def f_icopyInts (n : Nat) : List (Int) → Option ((List (Int)) × Unit) := runFn n E_icopyInts c_icopyInts [[.sl [.i .i64]]] [.sl [.i .i64]] [] [2] .no
noncomputable def g_icopyInts := f_icopyInts BIG
noncomputable def p_icopyInts : TSp := ⟨s_icopyInts, [[.sl [.i .i64]]], [.sl [.i .i64]], [], Ou.j .no, g_icopyInts⟩
theorem k_icopyInts : chkW PG E_icopyInts 104 s_icopyInts (c_icopyInts.ht 5) .no = some (c_icopyInts.wc E_icopyInts, [2]) := by kernel_rfl
theorem ok_icopyInts : p_icopyInts.Ok PG 104 := mkOk (env_nil PG) k_icopyInts (by kernel_rfl)
theorem e_icopyInts (n : Nat) (a0 : List (Int)) : f_icopyInts n a0 =
  bif decide (a0.length ≤ 4294967296) then
   some (a0, ())
  else none := by kernel_rfl
/- impl.with -/
def c_iwith : TC :=
 (.seq (.rg [o1 4 (.lit [.sl [.i .i64]] [.slice none 0 0])])
 (.seq (.rg [o1 5 (.lit [.i .i64] [.int .i64 (0)])])
 (.seq (.join [⟨5, [.i .i64], false⟩] 1048544 none (.block 0 (.loop [⟨5, [.i .i64], false⟩] 1048544
  (.seq (.seq (.join [⟨17, [.b], false⟩] 262080 none (.rg [o1 6 (.copy 5),
    ⟨true, [], [], .det 1 (.copy 0), [7], (some 7), none⟩,
    o1 8 (.len 7),
    o1 9 (.data (.bin .lss) [.t 6, .t 8]),
    o1 10 (.copy 9),
    ⟨true, [], [], .det 1 (.copy 0), [11], (some 11), some (4, true)⟩,
    o2 12 (.copy 5) 4 true,
    o2 13 (.index 11 (.t 12)) 4 true,
    o2 14 (.load 0 [(0, 1)] 0 (.t 13) 1 false) 4 true,
    o2 15 (.copy 1) 4 true,
    o2 16 (.data (.bin .lss) [.t 14, .t 15]) 4 true,
    ⟨false, [], [], .pick 10 (.t 16) (.c (.bool false)), [17], (some 17), none⟩]))
  (.cond (.t 17)
   .skip
   (.exit 0)))
  (.block 1 (.rg [o1 18 (.copy 5),
    o1 19 (.data (.bin .add) [.t 18, .c (.int .i64 (1))]),
    o1 5 (.copy 19)]))))))
 (.seq (.seq (.join [⟨31, [.b], false⟩] 4293918720 none (.rg [o1 20 (.copy 5),
   ⟨true, [], [], .det 1 (.copy 0), [21], (some 21), none⟩,
   o1 22 (.len 21),
   o1 23 (.data (.bin .lss) [.t 20, .t 22]),
   o1 24 (.copy 23),
   ⟨true, [], [], .det 1 (.copy 0), [25], (some 25), some (4, true)⟩,
   o2 26 (.copy 5) 4 true,
   o2 27 (.index 25 (.t 26)) 4 true,
   o2 28 (.load 0 [(0, 1)] 0 (.t 27) 1 false) 4 true,
   o2 29 (.copy 1) 4 true,
   o2 30 (.data (.bin .eql) [.t 28, .t 29]) 4 true,
   ⟨false, [], [], .pick 24 (.t 30) (.c (.bool false)), [31], (some 31), none⟩]))
 (.cond (.t 31)
  (.seq (.rg [⟨false, [], [], .det 2 (.copy 0), [32, 0, 7, 21], (some 32), none⟩,
    ⟨false, [], [], .det 2 (.copy 32), [4, 32], (some 4), none⟩])
  .ret)
  .skip))
 (.seq (.rg [⟨true, [], [], .det 1 (.copy 0), [33], (some 33), none⟩,
   o1 34 (.copy 5),
   o1 37 (.copy 1),
   ⟨true, [], [], .det 1 (.copy 0), [40], (some 40), none⟩,
   o1 41 (.copy 5),
   o1 35 (.res 33 none (some (.t 34))),
   o3 36 104 [.t 35],
   o1 38 (.sli [.i .i64] [.t 37]),
   ⟨false, [], [], .det 2 (.app (some 36) 38), [39, 36], (some 39), none⟩,
   o1 42 (.res 40 (some (.t 41)) none),
   ⟨false, [], [], .det 2 (.app (some 39) 42), [43, 39], (some 43), none⟩,
   ⟨false, [], [], .det 2 (.copy 43), [4, 43], (some 4), none⟩])
 .ret)))))
def s_iwith : Sig := ⟨[.tk false [.sl (.own none) [.d]], .rd false [.d]], (.one false [.sl (.own none) [.d]])⟩
noncomputable def E_iwith : TEnv := envOf [(104, p_icopyInts)]
noncomputable def f_iwith (n : Nat) : List (Int) × Int → Option ((List (Int)) × Unit) := runFn n E_iwith c_iwith [[.sl [.i .i64]], [.i .i64]] [.sl [.i .i64]] [] [4] .no
noncomputable def g_iwith := f_iwith BIG
noncomputable def p_iwith : TSp := ⟨s_iwith, [[.sl [.i .i64]], [.i .i64]], [.sl [.i .i64]], [], Ou.j .no, g_iwith⟩
theorem k_iwith : chkW PG E_iwith 49 s_iwith (c_iwith.ht 44) .no = some (c_iwith.wc E_iwith, [4]) := by kernel_rfl
theorem ok_iwith : p_iwith.Ok PG 49 := mkOk (env_cons ok_icopyInts (env_nil PG)) k_iwith (by kernel_rfl)
theorem e_iwith (n : Nat) (a0 : List (Int)) (a1 : Int) : f_iwith n (a0, a1) =
  Option.bind (loopT n (X := Int) (B := Int) (fun self1 x0 =>
    Option.bind (bif decide (x0 < (a0.length : Int)) then
      bnd a0.length x0 fun n2 =>
      Option.bind a0[n2]? fun y3 =>
      some (decide (y3 < a1))
     else some false : Option (Bool)) fun x4 =>
    bif x4 then
     self1 (IntKind.wrap .i64 (x0 + (1 : Int)))
    else some x0) (0 : Int) : Option (Int)) fun x5 =>
  Option.bind (bif decide (x5 < (a0.length : Int)) then
    bnd a0.length x5 fun n6 =>
    Option.bind a0[n6]? fun y7 =>
    some (decide (y7 = a1))
   else some false : Option (Bool)) fun x8 =>
  bif x8 then
   some (a0, ())
  else bif decide (0 ≤ x5) then
   bif decide (0 ≤ (Int.toNat x5) ∧ (Int.toNat x5) ≤ a0.length) then
    Option.bind (g_icopyInts (List.take ((Int.toNat x5) - 0) (List.drop 0 a0))) fun r9 =>
    bif decide (r9.1.length + [a1].length ≤ 4294967296) then
     bif decide (0 ≤ x5) then
      bif decide ((Int.toNat x5) ≤ a0.length ∧ a0.length ≤ a0.length) then
       bif decide ((r9.1 ++ [a1]).length + (List.take (a0.length - (Int.toNat x5)) (List.drop (Int.toNat x5) a0)).length ≤ 4294967296) then
        some ((r9.1 ++ [a1]) ++ (List.take (a0.length - (Int.toNat x5)) (List.drop (Int.toNat x5) a0)), ())
       else none
      else none
     else none
    else none
   else none
  else none := by kernel_rfl
/- impl.walk -/
def c_iwalk : TC :=
 (.seq (.rg [o1 6 (.lit [.sl [.i .i64]] [.slice none 0 0])])
 (.seq (.rg [o1 7 (.lit [.sl [.i .i64]] [.slice none 0 0])])
 (.seq (.join [⟨7, [.sl [.i .i64]], false⟩] 281474976703104 none (.seq (.rg [o1 13 (.copy 0),
   o1 14 (.len 13),
   o1 15 (.lit [.i .i64] [.int .i64 (0)])])
 (.block 0 (.loop [⟨7, [.sl [.i .i64]], false⟩, ⟨15, [.i .i64], false⟩] 281474976678528
  (.seq (.rg [o1 16 (.data (.bin .lss) [.t 15, .t 14])])
  (.seq (.cond (.t 16)
   .skip
   (.exit 0))
  (.seq (.join [⟨7, [.sl [.i .i64]], false⟩] 140737488224896 none (.block 1 (.seq (.rg [o1 17 (.index 13 (.t 15)),
    o1 18 (.load 13 [(0, 2)] 0 (.t 17) 2 false),
    ⟨false, [], [], .det 2 (.a (.c [.i .i64, .i .i64] [.int .i64 (0), .int .i64 (0)])), [9, 1000000001], (some 9), none⟩,
    o4 1 [9] (.store 9 [] 0 .nil (.t 18))])
  (.seq (.join [⟨7, [.sl [.i .i64]], false⟩] 8589410432 none (.seq (.join [⟨28, [.b], false⟩] 536346624 none (.rg [o1 19 (.idx .nil),
    o1 20 (.load 9 [] 0 (.t 19) 1 false),
    o1 21 (.copy 1),
    o1 22 (.data (.bin .eql) [.t 20, .t 21]),
    o1 23 (.copy 22),
    o2 24 (.idx .nil) 4 true,
    o2 25 (.load 9 [] 1 (.t 24) 1 false) 4 true,
    o2 26 (.copy 2) 4 true,
    o2 27 (.data (.bin .neq) [.t 25, .t 26]) 4 true,
    ⟨false, [], [], .pick 23 (.t 27) (.c (.bool false)), [28], (some 28), none⟩]))
  (.cond (.t 28)
   (.rg [⟨false, [], [], .det 2 (.copy 7), [29, 7], (some 29), none⟩,
     o1 30 (.idx .nil),
     o1 31 (.load 9 [] 1 (.t 30) 1 false),
     ⟨false, [], [], .call 2 49 [.t 29, .t 31] .no, [32, 29], (some 32), none⟩,
     ⟨false, [], [], .det 2 (.copy 32), [7, 32], (some 7), none⟩])
   .skip)))
  (.seq (.join [⟨42, [.b], false⟩] 8787503087616 none (.rg [o1 33 (.idx .nil),
    o1 34 (.load 9 [] 1 (.t 33) 1 false),
    o1 35 (.copy 1),
    o1 36 (.data (.bin .eql) [.t 34, .t 35]),
    o1 37 (.copy 36),
    o2 38 (.idx .nil) 4 true,
    o2 39 (.load 9 [] 0 (.t 38) 1 false) 4 true,
    o2 40 (.copy 2) 4 true,
    o2 41 (.data (.bin .neq) [.t 39, .t 40]) 4 true,
    ⟨false, [], [], .pick 37 (.t 41) (.c (.bool false)), [42], (some 42), none⟩]))
  (.cond (.t 42)
   (.rg [⟨false, [], [], .det 2 (.copy 7), [43, 7], (some 43), none⟩,
     o1 44 (.idx .nil),
     o1 45 (.load 9 [] 0 (.t 44) 1 false),
     ⟨false, [], [], .call 2 49 [.t 43, .t 45] .no, [46, 43], (some 46), none⟩,
     ⟨false, [], [], .det 2 (.copy 46), [7, 46], (some 7), none⟩])
   .skip))))))
  (.rg [o1 47 (.data (.bin .add) [.t 15, .c (.int .i64 (1))]),
    o1 15 (.copy 47)]))))))))
 (.seq (.rg [o1 48 (.copy 1),
   o1 49 (.sli [.i .i64] [.t 48]),
   ⟨false, [], [], .det 2 (.copy 49), [10, 49], (some 10), none⟩])
 (.seq (.join [⟨10, [.sl [.i .i64]], false⟩] 73785850394931369088 none (.seq (.rg [⟨false, [], [], .det 2 (.copy 7), [50, 7], (some 50), none⟩,
   o1 51 (.len 50),
   o1 52 (.lit [.i .i64] [.int .i64 (0)])])
 (.block 2 (.loop [⟨10, [.sl [.i .i64]], false⟩, ⟨52, [.i .i64], false⟩] 73782472695210841088
  (.seq (.rg [o1 53 (.data (.bin .lss) [.t 52, .t 51])])
  (.seq (.cond (.t 53)
   .skip
   (.exit 2))
  (.seq (.block 3 (.seq (.rg [o1 54 (.index 50 (.t 52)),
    o1 55 (.load 50 [(0, 1)] 0 (.t 54) 1 false),
    o1 12 (.copy 55)])
  (.rg [⟨false, [], [], .det 2 (.copy 10), [56, 10], (some 56), none⟩,
    o1 57 (.copy 0),
    o1 58 (.copy 12),
    o1 59 (.copy 1),
    o3 60 45 [.t 57, .t 58, .t 59],
    ⟨false, [], [], .det 2 (.app (some 56) 60), [61, 56], (some 61), none⟩,
    o1 62 (.copy 1),
    o1 63 (.sli [.i .i64] [.t 62]),
    ⟨false, [], [], .det 2 (.app (some 61) 63), [64, 61], (some 64), none⟩,
    ⟨false, [], [], .det 2 (.copy 64), [10, 64], (some 10), none⟩])))
  (.rg [o1 65 (.data (.bin .add) [.t 52, .c (.int .i64 (1))]),
    o1 52 (.copy 65)]))))))))
 (.seq (.rg [⟨false, [], [], .det 2 (.copy 10), [66, 10], (some 66), none⟩,
   ⟨false, [], [], .det 2 (.copy 66), [6, 66], (some 6), none⟩])
 .ret))))))
def s_iwalk : Sig := ⟨[.rd false [.sl (.own none) [.d, .d]], .rd false [.d], .rd false [.d]], (.one false [.sl (.own none) [.d]])⟩
noncomputable def E_iwalk (q : (List (Int × Int)) × Int × Int → Option ((List (Int)) × Unit)) : TEnv := envOf [(49, p_iwith), (45, ⟨s_iwalk, [[.sl [.i .i64, .i .i64]], [.i .i64], [.i .i64]], [.sl [.i .i64]], [], Ou.j .no, q⟩)]
noncomputable def f_iwalk (q : (List (Int × Int)) × Int × Int → Option ((List (Int)) × Unit)) (n : Nat) : (List (Int × Int)) × Int × Int → Option ((List (Int)) × Unit) := runFn n (E_iwalk q) c_iwalk [[.sl [.i .i64, .i .i64]], [.i .i64], [.i .i64]] [.sl [.i .i64]] [] [6] .no
noncomputable def g_iwalk : Nat → (List (Int × Int)) × Int × Int → Option ((List (Int)) × Unit)
  | 0 => fun _ => none
  | d + 1 => f_iwalk (g_iwalk d) BIG
noncomputable def p_iwalk (d : Nat) : TSp := ⟨s_iwalk, [[.sl [.i .i64, .i .i64]], [.i .i64], [.i .i64]], [.sl [.i .i64]], [], Ou.j .no, (g_iwalk d)⟩
theorem k_iwalk (q : (List (Int × Int)) × Int × Int → Option ((List (Int)) × Unit)) : chkW PG (E_iwalk q) 45 s_iwalk (c_iwalk.ht 67) .no = some (c_iwalk.wc (E_iwalk q), [6]) := by kernel_rfl
theorem ok_iwalk : ∀ d : Nat, (p_iwalk d).Ok PG 45
  | 0 => fun _ _ _ h => by cases h
  | d + 1 => mkOk (env_cons ok_iwith (env_cons (ok_iwalk d) (env_nil PG))) (k_iwalk _) (by kernel_rfl)
theorem e_iwalk (q : (List (Int × Int)) × Int × Int → Option ((List (Int)) × Unit)) (n : Nat) (a0 : List (Int × Int)) (a1 : Int) (a2 : Int) : f_iwalk q n (a0, a1, a2) =
  Option.bind (loopT n (X := (List (Int)) × Int) (B := (List (Int))) (fun self1 x0 =>
    bif decide (x0.2 < (a0.length : Int)) then
     Option.bind (bnd a0.length x0.2 fun n2 =>
      Option.bind a0[n2]? fun y3 =>
      Option.bind (Option.bind (bif decide (y3.1 = a1) then
         some (!decide (y3.2 = a2))
        else some false : Option (Bool)) fun x4 =>
       bif x4 then
        Option.bind (g_iwith (x0.1, y3.2)) fun r5 =>
        some r5.1
       else some x0.1 : Option ((List (Int)))) fun x6 =>
      Option.bind (bif decide (y3.2 = a1) then
        some (!decide (y3.1 = a2))
       else some false : Option (Bool)) fun x7 =>
      bif x7 then
       Option.bind (g_iwith (x6, y3.1)) fun r8 =>
       some r8.1
      else some x6 : Option ((List (Int)))) fun x9 =>
     self1 (x9, IntKind.wrap .i64 (x0.2 + (1 : Int)))
    else some x0.1) ([], (0 : Int)) : Option ((List (Int)))) fun x10 =>
  Option.bind (loopT n (X := (List (Int)) × Int) (B := (List (Int))) (fun self12 x11 =>
    bif decide (x11.2 < (x10.length : Int)) then
     bnd x10.length x11.2 fun n13 =>
     Option.bind x10[n13]? fun y14 =>
     Option.bind (q (a0, y14, a1)) fun r15 =>
     bif decide (x11.1.length + r15.1.length ≤ 4294967296) then
      bif decide ((x11.1 ++ r15.1).length + [a1].length ≤ 4294967296) then
       self12 ((x11.1 ++ r15.1) ++ [a1], IntKind.wrap .i64 (x11.2 + (1 : Int)))
      else none
     else none
    else some x11.1) ([a1], (0 : Int)) : Option ((List (Int)))) fun x16 =>
  some (x16, ()) := by kernel_rfl
/- impl.TourOf -/
def c_iTourOf : TC :=
 (.seq (.rg [o1 6 (.lit [.sl [.i .i64]] [.slice none 0 0]),
   o1 7 (.lit [.b] [.bool false])])
 (.seq (.seq (.join [⟨19, [.b], false⟩] 1047552 none (.rg [o1 10 (.copy 0),
   o3 11 42 [.t 10, .c [.i .i64] [.int .i64 (1)], .c [.i .i64] [.int .i64 (12)]],
   o1 12 (.data .not [.t 11]),
   o1 13 (.copy 12),
   o2 14 (.copy 2) 3 false,
   o2 15 (.copy 0) 3 false,
   o2 16 (.data (.bin .sub) [.t 15, .c (.int .i64 (1))]) 3 false,
   ⟨false, [], [], .call 1 42 [.t 14, .c [.i .i64] [.int .i64 (0)], .t 16] .no, [17], (some 17), some (3, false)⟩,
   o2 18 (.data .not [.t 17]) 3 false,
   ⟨false, [], [], .pick 13 (.c (.bool true)) (.t 18), [19], (some 19), none⟩]))
 (.cond (.t 19)
  (.seq (.rg [o1 6 (.lit [.sl [.i .i64]] [.slice none 0 0]),
    o1 7 (.lit [.b] [.bool false])])
  .ret)
  .skip))
 (.seq (.join [] 2146435776 (some [⟨6, [.sl [.i .i64]], false⟩, ⟨7, [.b], false⟩]) (.seq (.rg [o1 20 (.copy 1),
   o1 21 (.len 20),
   o1 22 (.lit [.i .i64] [.int .i64 (0)])])
 (.block 0 (.loop [⟨22, [.i .i64], false⟩] 2143290048
  (.seq (.rg [o1 23 (.data (.bin .lss) [.t 22, .t 21])])
  (.seq (.cond (.t 23)
   .skip
   (.exit 0))
  (.seq (.block 1 (.seq (.rg [o1 24 (.index 20 (.t 22)),
    o1 25 (.load 20 [(0, 2)] 0 (.t 24) 2 false),
    ⟨false, [], [], .det 2 (.a (.c [.i .i64, .i .i64] [.int .i64 (0), .int .i64 (0)])), [9, 1000000001], (some 9), none⟩,
    o4 1 [9] (.store 9 [] 0 .nil (.t 25))])
  (.seq (.rg [o1 26 (.copy 0),
    o1 27 (.load 9 [] 0 .nil 2 false),
    o3 28 43 [.t 26, .t 27],
    o1 29 (.data .not [.t 28])])
  (.cond (.t 29)
   (.seq (.rg [o1 6 (.lit [.sl [.i .i64]] [.slice none 0 0]),
     o1 7 (.lit [.b] [.bool false])])
   .ret)
   .skip))))
  (.rg [o1 30 (.data (.bin .add) [.t 22, .c (.int .i64 (1))]),
    o1 22 (.copy 30)]))))))))
 (.seq (.seq (.rg [o1 31 (.copy 0),
   o1 32 (.copy 1),
   o3 33 44 [.t 31, .t 32]])
 (.cond (.t 33)
  (.seq (.rg [o1 6 (.lit [.sl [.i .i64]] [.slice none 0 0]),
    o1 7 (.lit [.b] [.bool false])])
  .ret)
  .skip))
 (.seq (.rg [o1 34 (.copy 1),
   o1 35 (.copy 2),
   o3 36 45 [.t 34, .t 35, .c [.i .i64] [.int .i64 (-1)]],
   ⟨false, [], [], .det 2 (.copy 36), [6, 36], (some 6), none⟩,
   o1 7 (.lit [.b] [.bool true])])
 .ret)))))
def s_iTourOf : Sig := ⟨[.rd false [.d], .rd false [.sl (.own none) [.d, .d]], .rd false [.d]], (.tup [(false, 1), (false, 1)] [.sl (.own none) [.d], .d])⟩
noncomputable def E_iTourOf : TEnv := envOf [(42, p_iin), (43, p_iEdgeOk), (44, p_irings), (45, p_iwalk 64)]
noncomputable def f_iTourOf (n : Nat) : Int × (List (Int × Int)) × Int → Option ((List (Int) × Bool) × Unit) := runFn n E_iTourOf c_iTourOf [[.i .i64], [.sl [.i .i64, .i .i64]], [.i .i64]] [.sl [.i .i64], .b] [] [6, 7] .no
noncomputable def g_iTourOf := f_iTourOf BIG
noncomputable def p_iTourOf : TSp := ⟨s_iTourOf, [[.i .i64], [.sl [.i .i64, .i .i64]], [.i .i64]], [.sl [.i .i64], .b], [], Ou.j .no, g_iTourOf⟩
theorem k_iTourOf : chkW PG E_iTourOf 10 s_iTourOf (c_iTourOf.ht 37) .no = some (c_iTourOf.wc E_iTourOf, [6, 7]) := by kernel_rfl
theorem ok_iTourOf : p_iTourOf.Ok PG 10 := mkOk (env_cons ok_iin (env_cons ok_iEdgeOk (env_cons ok_irings (env_cons (ok_iwalk 64) (env_nil PG))))) k_iTourOf (by kernel_rfl)
theorem e_iTourOf (n : Nat) (a0 : Int) (a1 : List (Int × Int)) (a2 : Int) : f_iTourOf n (a0, a1, a2) =
  Option.bind (Option.bind (g_iin (a0, (1 : Int), (12 : Int))) fun r0 =>
   bif !r0.1 then
    some true
   else Option.bind (g_iin (a2, (0 : Int), IntKind.wrap .i64 (a0 - (1 : Int)))) fun r1 =>
   some !r1.1 : Option (Bool)) fun x2 =>
  bif x2 then
   some (([], false), ())
  else Option.bind (loopT n (X := Int) (B := (Unit) ⊕ ((List (Int)) × Bool)) (fun self4 x3 =>
    bif decide (x3 < (a1.length : Int)) then
     bnd a1.length x3 fun n5 =>
     Option.bind a1[n5]? fun y6 =>
     Option.bind (g_iEdgeOk (a0, y6)) fun r7 =>
     bif !r7.1 then
      some (Sum.inr ([], false))
     else self4 (IntKind.wrap .i64 (x3 + (1 : Int)))
    else some (Sum.inl ())) (0 : Int) : Option ((Unit) ⊕ ((List (Int)) × Bool))) fun y => match y with
  | .inl x8 =>
   Option.bind (g_irings (a0, a1)) fun r9 =>
   bif r9.1 then
    some (([], false), ())
   else Option.bind (g_iwalk 64 (a1, a2, (-1 : Int))) fun r10 =>
   some ((r10.1, true), ())
  | .inr x8 =>
   some (x8, ()) := by kernel_rfl
/- spec.l06Walk -/
def c_sl06Walk : TC :=
 (.seq (.rg [o1 10 (.lit [.sl [.i .i64]] [.slice none 0 0]),
   o1 11 (.lit [.b] [.bool false])])
 (.seq (.rg [o1 17 (.copy 2),
   o1 18 (.sli [.i .i64] [.t 17]),
   ⟨false, [], [], .det 2 (.copy 18), [12, 18], (some 12), none⟩])
 (.seq (.rg [⟨true, [], [], .det 1 (.copy 4), [19], (some 19), none⟩,
   o1 20 (.copy 2),
   o1 21 (.index 19 (.t 20)),
   o4 1 [4, 19] (.store 4 [(0, 1)] 0 (.t 21) (.c [.b] [.bool true]))])
 (.seq (.join [⟨12, [.sl [.i .i64]], false⟩, ⟨4, [.sl [.b]], false⟩] 147573952589672348688 (some [⟨10, [.sl [.i .i64]], false⟩, ⟨11, [.b], false⟩, ⟨4, [.sl [.b]], false⟩]) (.seq (.rg [o1 13 (.lit [.i .i64] [.int .i64 (0)])])
 (.block 0 (.loop [⟨12, [.sl [.i .i64]], false⟩, ⟨4, [.sl [.b]], false⟩, ⟨13, [.i .i64], false⟩] 147573952589674445840
  (.seq (.seq (.rg [o1 22 (.copy 13),
    o1 23 (.copy 0),
    o1 24 (.data (.bin .lss) [.t 22, .t 23])])
  (.cond (.t 24)
   .skip
   (.exit 0)))
  (.seq (.join [⟨12, [.sl [.i .i64]], false⟩, ⟨4, [.sl [.b]], false⟩] 147573952589542317072 (some [⟨10, [.sl [.i .i64]], false⟩, ⟨11, [.b], false⟩, ⟨4, [.sl [.b]], false⟩]) (.block 1 (.seq (.rg [o1 27 (.copy 13),
    o1 28 (.copy 2),
    o1 29 (.build [.i .i64, .i .i64] [(0, .t 27), (1, .t 28)]),
    ⟨false, [], [], .det 2 (.a (.c [.i .i64, .i .i64] [.int .i64 (0), .int .i64 (0)])), [14, 1000000001], (some 14), none⟩,
    o4 1 [14] (.store 14 [] 0 .nil (.t 29))])
  (.seq (.join [⟨14, [.i .i64, .i .i64], false⟩] 67645751296 none (.seq (.rg [o1 30 (.copy 2),
    o1 31 (.copy 13),
    o1 32 (.data (.bin .lss) [.t 30, .t 31])])
  (.cond (.t 32)
   (.rg [o1 33 (.copy 2),
     o1 34 (.copy 13),
     o1 35 (.build [.i .i64, .i .i64] [(0, .t 33), (1, .t 34)]),
     o4 1 [14] (.store 14 [] 0 .nil (.t 35))])
   .skip)))
  (.seq (.seq (.join [⟨44, [.b], false⟩] 35115652612096 none (.rg [o1 36 (.copy 13),
    o1 37 (.copy 3),
    o1 38 (.data (.bin .eql) [.t 36, .t 37]),
    o1 39 (.copy 38),
    o2 40 (.copy 1) 3 false,
    o2 41 (.load 14 [] 0 .nil 2 false) 3 false,
    ⟨false, [], [], .call 1 103 [.t 40, .t 41] .no, [42], (some 42), some (3, false)⟩,
    o2 43 (.data .not [.t 42]) 3 false,
    ⟨false, [], [], .pick 39 (.c (.bool true)) (.t 43), [44], (some 44), none⟩]))
  (.cond (.t 44)
   (.exit 1)
   .skip))
  (.seq (.seq (.rg [⟨true, [], [], .det 1 (.copy 4), [45], (some 45), none⟩,
    o1 46 (.copy 13),
    o1 47 (.index 45 (.t 46)),
    o1 48 (.load 4 [(0, 1)] 0 (.t 47) 1 false)])
  (.cond (.t 48)
   (.seq (.rg [⟨false, [], [], .det 2 (.copy 12), [49, 12], (some 49), none⟩,
     ⟨false, [], [], .det 2 (.copy 49), [10, 49], (some 10), none⟩,
     o1 11 (.lit [.b] [.bool true])])
   .ret)
   .skip))
  (.seq (.rg [o1 51 (.copy 0),
    o1 52 (.copy 1),
    o1 53 (.copy 13),
    o1 54 (.copy 2),
    ⟨true, [], [], .det 1 (.copy 4), [55], (some 55), none⟩,
    ⟨false, [], [], .call 2 48 [.t 51, .t 52, .t 53, .t 54, .t 55] (.mt 4 [] 0 55 4), [56, 4, 45, 47, 55], (some 56), none⟩,
    ⟨false, [], [], .det 2 (.copy 56), [50, 56], (some 50), none⟩,
    ⟨false, [], [], .det 2 (.ext 50 0 1), [57, 50], (some 57), none⟩,
    o1 58 (.ext 50 1 1),
    ⟨false, [], [], .det 2 (.copy 57), [15, 57], (some 15), none⟩,
    o1 16 (.copy 58)])
  (.seq (.seq (.rg [o1 59 (.copy 16)])
  (.cond (.t 59)
   (.seq (.rg [⟨false, [], [], .det 2 (.copy 12), [60, 12], (some 60), none⟩,
     ⟨false, [], [], .det 2 (.copy 60), [10, 60], (some 10), none⟩,
     o1 11 (.lit [.b] [.bool true])])
   .ret)
   .skip))
  (.rg [⟨false, [], [], .det 2 (.copy 12), [61, 12], (some 61), none⟩,
    ⟨false, [], [], .det 2 (.copy 15), [62, 15], (some 62), none⟩,
    ⟨false, [], [], .det 2 (.app (some 61) 62), [63, 61], (some 63), none⟩,
    o1 64 (.copy 2),
    o1 65 (.sli [.i .i64] [.t 64]),
    ⟨false, [], [], .det 2 (.app (some 63) 65), [66, 63], (some 66), none⟩,
    ⟨false, [], [], .det 2 (.copy 66), [12, 66], (some 12), none⟩])))))))))
  (.rg [o1 25 (.copy 13),
    o1 26 (.data (.bin .add) [.t 25, .c (.int .i64 (1))]),
    o1 13 (.copy 26)])))))))
 (.seq (.rg [⟨false, [], [], .det 2 (.copy 12), [67, 12], (some 67), none⟩,
   ⟨false, [], [], .det 2 (.copy 67), [10, 67], (some 10), none⟩,
   o1 11 (.lit [.b] [.bool false])])
 .ret)))))
def s_sl06Walk : Sig := ⟨[.rd false [.d], .rd false [.sl (.own none) [.d, .d]], .rd false [.d], .rd false [.d], .mt false [.sl (.own none) [.d]]], (.tup [(false, 1), (false, 1)] [.sl (.own none) [.d], .d])⟩
noncomputable def E_sl06Walk (q : Int × (List (Int × Int)) × Int × Int × List (Bool) → Option ((List (Int) × Bool) × List (Bool))) : TEnv := envOf [(103, p_sl05Has), (48, ⟨s_sl06Walk, [[.i .i64], [.sl [.i .i64, .i .i64]], [.i .i64], [.i .i64], [.sl [.b]]], [.sl [.i .i64], .b], [.sl [.b]], Ou.j (.mt 4 4 0), q⟩)]
noncomputable def f_sl06Walk (q : Int × (List (Int × Int)) × Int × Int × List (Bool) → Option ((List (Int) × Bool) × List (Bool))) (n : Nat) : Int × (List (Int × Int)) × Int × Int × List (Bool) → Option ((List (Int) × Bool) × List (Bool)) := runFn n (E_sl06Walk q) c_sl06Walk [[.i .i64], [.sl [.i .i64, .i .i64]], [.i .i64], [.i .i64], [.sl [.b]]] [.sl [.i .i64], .b] [.sl [.b]] [10, 11] (.mt 4 4 0)
noncomputable def g_sl06Walk : Nat → Int × (List (Int × Int)) × Int × Int × List (Bool) → Option ((List (Int) × Bool) × List (Bool))
  | 0 => fun _ => none
  | d + 1 => f_sl06Walk (g_sl06Walk d) BIG
noncomputable def p_sl06Walk (d : Nat) : TSp := ⟨s_sl06Walk, [[.i .i64], [.sl [.i .i64, .i .i64]], [.i .i64], [.i .i64], [.sl [.b]]], [.sl [.i .i64], .b], [.sl [.b]], Ou.j (.mt 4 4 0), (g_sl06Walk d)⟩
theorem k_sl06Walk (q : Int × (List (Int × Int)) × Int × Int × List (Bool) → Option ((List (Int) × Bool) × List (Bool))) : chkW PG (E_sl06Walk q) 48 s_sl06Walk (c_sl06Walk.ht 68) (.mt 4 4 0) = some (c_sl06Walk.wc (E_sl06Walk q), [10, 11]) := by kernel_rfl
theorem ok_sl06Walk : ∀ d : Nat, (p_sl06Walk d).Ok PG 48
  | 0 => fun _ _ _ h => by cases h
  | d + 1 => mkOk (env_cons ok_sl05Has (env_cons (ok_sl06Walk d) (env_nil PG))) (k_sl06Walk _) (by kernel_rfl)
theorem e_sl06Walk (q : Int × (List (Int × Int)) × Int × Int × List (Bool) → Option ((List (Int) × Bool) × List (Bool))) (n : Nat) (a0 : Int) (a1 : List (Int × Int)) (a2 : Int) (a3 : Int) (a4 : List (Bool)) : f_sl06Walk q n (a0, a1, a2, a3, a4) =
  bnd a4.length a2 fun n0 =>
  Option.bind a4[n0]? fun y1 =>
  Option.bind (loopT n (X := (List (Int)) × (List (Bool)) × Int) (B := ((List (Int)) × (List (Bool))) ⊕ ((List (Int)) × Bool × (List (Bool)))) (fun self3 x2 =>
    bif decide (x2.2.2 < a0) then
     Option.bind (Option.bind (bif decide (a2 < x2.2.2) then
        some (a2, x2.2.2)
       else some (x2.2.2, a2) : Option ((Int × Int))) fun x4 =>
      Option.bind (bif decide (x2.2.2 = a3) then
        some true
       else Option.bind (g_sl05Has (a1, x4)) fun r5 =>
       some !r5.1 : Option (Bool)) fun x6 =>
      bif x6 then
       some (Sum.inl (x2.1, x2.2.1))
      else bnd x2.2.1.length x2.2.2 fun n7 =>
      Option.bind x2.2.1[n7]? fun y8 =>
      bif y8 then
       some (Sum.inr (x2.1, true, x2.2.1))
      else Option.bind (q (a0, a1, x2.2.2, a2, x2.2.1)) fun r9 =>
      bif r9.1.2 then
       some (Sum.inr (x2.1, true, r9.2))
      else bif decide (x2.1.length + r9.1.1.length ≤ 4294967296) then
       bif decide ((x2.1 ++ r9.1.1).length + [a2].length ≤ 4294967296) then
        some (Sum.inl ((x2.1 ++ r9.1.1) ++ [a2], r9.2))
       else none
      else none : Option (((List (Int)) × (List (Bool))) ⊕ ((List (Int)) × Bool × (List (Bool))))) fun y => match y with
     | .inl x10 =>
      self3 (x10.1, x10.2, IntKind.wrap .i64 (x2.2.2 + (1 : Int)))
     | .inr x10 =>
      some (Sum.inr (x10.1, x10.2.1, x10.2.2))
    else some (Sum.inl (x2.1, x2.2.1))) ([a2], a4.set n0 true, (0 : Int)) : Option (((List (Int)) × (List (Bool))) ⊕ ((List (Int)) × Bool × (List (Bool))))) fun y => match y with
  | .inl x11 =>
   some ((x11.1, false), x11.2)
  | .inr x11 =>
   some ((x11.1, x11.2.1), x11.2.2) := by kernel_rfl
/- spec.TourOf -/
def c_sTourOf : TC :=
 (.seq (.rg [o1 6 (.lit [.sl [.i .i64]] [.slice none 0 0]),
   o1 7 (.lit [.b] [.bool false])])
 (.seq (.seq (.join [⟨20, [.b], false⟩] 2095104 none (.rg [o1 11 (.copy 0),
   o3 12 46 [.t 11, .c [.i .i64] [.int .i64 (1)], .c [.i .i64] [.int .i64 (12)]],
   o1 13 (.data .not [.t 12]),
   o1 14 (.copy 13),
   o2 15 (.copy 2) 3 false,
   o2 16 (.copy 0) 3 false,
   o2 17 (.data (.bin .sub) [.t 16, .c (.int .i64 (1))]) 3 false,
   ⟨false, [], [], .call 1 46 [.t 15, .c [.i .i64] [.int .i64 (0)], .t 17] .no, [18], (some 18), some (3, false)⟩,
   o2 19 (.data .not [.t 18]) 3 false,
   ⟨false, [], [], .pick 14 (.c (.bool true)) (.t 19), [20], (some 20), none⟩]))
 (.cond (.t 20)
  (.seq (.rg [o1 21 (.sli [.i .i64] []),
    ⟨false, [], [], .det 2 (.copy 21), [6, 21], (some 6), none⟩,
    o1 7 (.lit [.b] [.bool false])])
  .ret)
  .skip))
 (.seq (.join [] 68715282880 (some [⟨6, [.sl [.i .i64]], false⟩, ⟨7, [.b], false⟩]) (.seq (.rg [o1 8 (.lit [.i .i64] [.int .i64 (0)])])
 (.block 0 (.loop [⟨8, [.i .i64], false⟩] 68715282880
  (.seq (.seq (.rg [o1 22 (.copy 8),
    o1 23 (.copy 1),
    o1 24 (.len 23),
    o1 25 (.data (.bin .lss) [.t 22, .t 24])])
  (.cond (.t 25)
   .skip
   (.exit 0)))
  (.seq (.block 1 (.seq (.rg [o1 28 (.copy 0),
    o1 29 (.copy 1),
    o1 30 (.copy 8),
    o1 31 (.index 29 (.t 30)),
    o1 32 (.load 29 [(0, 2)] 0 (.t 31) 2 false),
    o3 33 47 [.t 28, .t 32],
    o1 34 (.data .not [.t 33])])
  (.cond (.t 34)
   (.seq (.rg [o1 35 (.sli [.i .i64] []),
     ⟨false, [], [], .det 2 (.copy 35), [6, 35], (some 6), none⟩,
     o1 7 (.lit [.b] [.bool false])])
   .ret)
   .skip)))
  (.rg [o1 26 (.copy 8),
    o1 27 (.data (.bin .add) [.t 26, .c (.int .i64 (1))]),
    o1 8 (.copy 27)])))))))
 (.seq (.rg [o1 37 (.copy 0),
   o1 38 (.copy 1),
   o1 39 (.copy 2),
   o1 40 (.copy 0),
   o1 41 (.make (.t 40) [.b]),
   ⟨false, [], [], .call 2 48 [.t 37, .t 38, .t 39, .c [.i .i64] [.int .i64 (-1)], .t 41] (.mt 41 [] 0 41 4), [42, 41], (some 42), none⟩,
   ⟨false, [], [], .det 2 (.copy 42), [36, 42], (some 36), none⟩,
   ⟨false, [], [], .det 2 (.ext 36 0 1), [43, 36], (some 43), none⟩,
   o1 44 (.ext 36 1 1),
   ⟨false, [], [], .det 2 (.copy 43), [9, 43], (some 9), none⟩,
   o1 10 (.copy 44)])
 (.seq (.seq (.rg [o1 45 (.copy 10)])
 (.cond (.t 45)
  (.seq (.rg [o1 46 (.sli [.i .i64] []),
    ⟨false, [], [], .det 2 (.copy 46), [6, 46], (some 6), none⟩,
    o1 7 (.lit [.b] [.bool false])])
  .ret)
  .skip))
 (.seq (.rg [⟨false, [], [], .det 2 (.copy 9), [47, 9], (some 47), none⟩,
   ⟨false, [], [], .det 2 (.copy 47), [6, 47], (some 6), none⟩,
   o1 7 (.lit [.b] [.bool true])])
 .ret))))))
def s_sTourOf : Sig := ⟨[.rd false [.d], .rd false [.sl (.own none) [.d, .d]], .rd false [.d]], (.tup [(false, 1), (false, 1)] [.sl (.own none) [.d], .d])⟩
noncomputable def E_sTourOf : TEnv := envOf [(46, p_sl01In), (47, p_sEdgeOk), (48, p_sl06Walk 64)]
noncomputable def f_sTourOf (n : Nat) : Int × (List (Int × Int)) × Int → Option ((List (Int) × Bool) × Unit) := runFn n E_sTourOf c_sTourOf [[.i .i64], [.sl [.i .i64, .i .i64]], [.i .i64]] [.sl [.i .i64], .b] [] [6, 7] .no
noncomputable def g_sTourOf := f_sTourOf BIG
noncomputable def p_sTourOf : TSp := ⟨s_sTourOf, [[.i .i64], [.sl [.i .i64, .i .i64]], [.i .i64]], [.sl [.i .i64], .b], [], Ou.j .no, g_sTourOf⟩
theorem k_sTourOf : chkW PG E_sTourOf 11 s_sTourOf (c_sTourOf.ht 48) .no = some (c_sTourOf.wc E_sTourOf, [6, 7]) := by kernel_rfl
theorem ok_sTourOf : p_sTourOf.Ok PG 11 := mkOk (env_cons ok_sl01In (env_cons ok_sEdgeOk (env_cons (ok_sl06Walk 64) (env_nil PG)))) k_sTourOf (by kernel_rfl)
theorem e_sTourOf (n : Nat) (a0 : Int) (a1 : List (Int × Int)) (a2 : Int) : f_sTourOf n (a0, a1, a2) =
  Option.bind (Option.bind (g_sl01In (a0, (1 : Int), (12 : Int))) fun r0 =>
   bif !r0.1 then
    some true
   else Option.bind (g_sl01In (a2, (0 : Int), IntKind.wrap .i64 (a0 - (1 : Int)))) fun r1 =>
   some !r1.1 : Option (Bool)) fun x2 =>
  bif x2 then
   some (([], false), ())
  else Option.bind (loopT n (X := Int) (B := (Unit) ⊕ ((List (Int)) × Bool)) (fun self4 x3 =>
    bif decide (x3 < (a1.length : Int)) then
     bnd a1.length x3 fun n5 =>
     Option.bind a1[n5]? fun y6 =>
     Option.bind (g_sEdgeOk (a0, y6)) fun r7 =>
     bif !r7.1 then
      some (Sum.inr ([], false))
     else self4 (IntKind.wrap .i64 (x3 + (1 : Int)))
    else some (Sum.inl ())) (0 : Int) : Option ((Unit) ⊕ ((List (Int)) × Bool))) fun y => match y with
  | .inl x8 =>
   bif decide (0 ≤ a0) then
    bif decide ((Int.toNat a0) ≤ 4294967296) then
     Option.bind (g_sl06Walk 64 (a0, a1, a2, (-1 : Int), List.replicate (Int.toNat a0) false)) fun r9 =>
     bif r9.1.2 then
      some (([], false), ())
     else some ((r9.1.1, true), ())
    else none
   else none
  | .inr x8 =>
   some (x8, ()) := by kernel_rfl
/- spec.l05SameInts -/
def c_sl05SameInts : TC :=
 (.seq (.rg [o1 4 (.lit [.b] [.bool false])])
 (.seq (.seq (.rg [o1 6 (.copy 0),
   o1 7 (.len 6),
   o1 8 (.copy 1),
   o1 9 (.len 8),
   o1 10 (.data (.bin .neq) [.t 7, .t 9])])
 (.cond (.t 10)
  (.seq (.rg [o1 4 (.lit [.b] [.bool false])])
  .ret)
  .skip))
 (.seq (.join [] 67106864 (some [⟨4, [.b], false⟩]) (.seq (.rg [o1 5 (.lit [.i .i64] [.int .i64 (0)])])
 (.block 0 (.loop [⟨5, [.i .i64], false⟩] 67106864
  (.seq (.seq (.rg [o1 11 (.copy 5),
    o1 12 (.copy 0),
    o1 13 (.len 12),
    o1 14 (.data (.bin .lss) [.t 11, .t 13])])
  (.cond (.t 14)
   .skip
   (.exit 0)))
  (.seq (.block 1 (.seq (.rg [o1 17 (.copy 0),
    o1 18 (.copy 5),
    o1 21 (.copy 1),
    o1 22 (.copy 5),
    o1 19 (.index 17 (.t 18)),
    o1 20 (.load 17 [(0, 1)] 0 (.t 19) 1 false),
    o1 23 (.index 21 (.t 22)),
    o1 24 (.load 21 [(0, 1)] 0 (.t 23) 1 false),
    o1 25 (.data (.bin .neq) [.t 20, .t 24])])
  (.cond (.t 25)
   (.seq (.rg [o1 4 (.lit [.b] [.bool false])])
   .ret)
   .skip)))
  (.rg [o1 15 (.copy 5),
    o1 16 (.data (.bin .add) [.t 15, .c (.int .i64 (1))]),
    o1 5 (.copy 16)])))))))
 (.seq (.rg [o1 4 (.lit [.b] [.bool true])])
 .ret))))
def s_sl05SameInts : Sig := ⟨[.rd false [.sl (.own none) [.d]], .rd false [.sl (.own none) [.d]]], (.one false [.d])⟩
noncomputable def E_sl05SameInts : TEnv := envOf []
noncomputable def f_sl05SameInts (n : Nat) : List (Int) × List (Int) → Option ((Bool) × Unit) := runFn n E_sl05SameInts c_sl05SameInts [[.sl [.i .i64]], [.sl [.i .i64]]] [.b] [] [4] .no
noncomputable def g_sl05SameInts := f_sl05SameInts BIG
noncomputable def p_sl05SameInts : TSp := ⟨s_sl05SameInts, [[.sl [.i .i64]], [.sl [.i .i64]]], [.b], [], Ou.j .no, g_sl05SameInts⟩
theorem k_sl05SameInts : chkW PG E_sl05SameInts 89 s_sl05SameInts (c_sl05SameInts.ht 26) .no = some (c_sl05SameInts.wc E_sl05SameInts, [4]) := by kernel_rfl
theorem ok_sl05SameInts : p_sl05SameInts.Ok PG 89 := mkOk (env_nil PG) k_sl05SameInts (by kernel_rfl)
theorem e_sl05SameInts (n : Nat) (a0 : List (Int)) (a1 : List (Int)) : f_sl05SameInts n (a0, a1) =
  bif !decide ((a0.length : Int) = (a1.length : Int)) then
   some (false, ())
  else Option.bind (loopT n (X := Int) (B := (Unit) ⊕ (Bool)) (fun self1 x0 =>
    bif decide (x0 < (a0.length : Int)) then
     bnd a0.length x0 fun n2 =>
     Option.bind a0[n2]? fun y3 =>
     bnd a1.length x0 fun n4 =>
     Option.bind a1[n4]? fun y5 =>
     bif !decide (y3 = y5) then
      some (Sum.inr false)
     else self1 (IntKind.wrap .i64 (x0 + (1 : Int)))
    else some (Sum.inl ())) (0 : Int) : Option ((Unit) ⊕ (Bool))) fun y => match y with
  | .inl x6 =>
   some (true, ())
  | .inr x6 =>
   some (x6, ()) := by kernel_rfl
end Go.Fw
