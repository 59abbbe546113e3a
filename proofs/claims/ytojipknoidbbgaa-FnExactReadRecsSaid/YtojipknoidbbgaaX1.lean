/- The given functions, as what they compute; each is shown to be what the code does. No conditions. -/
import Derived.Test.YtojipknoidbbgaaX0
set_option linter.unusedVariables false
set_option linter.unusedSimpArgs false
namespace Go.Fw
def c_iOrderText : TC :=
 (.seq (.rg [o1 3 (.a (.t 1)),
   o1 4 (.lit [.s] [.string ⟨#[]⟩]),
   o1 5 (.lit [.b] [.bool false])])
 (.seq (.seq (.rg [o1 10 (.copy 0),
   o1 11 (.load 3 [] 0 .nil 4 false),
   o3 12 241 [.t 10, .t 11],
   o1 13 (.data .not [.t 12])])
 (.cond (.t 13)
  (.seq (.rg [o1 4 (.lit [.s] [.string ⟨#[]⟩]),
    o1 5 (.lit [.b] [.bool false])])
  .ret)
  .skip))
 (.seq (.rg [o1 15 (.idx .nil),
   o1 16 (.load 3 [] 0 (.t 15) 1 false),
   o3 17 321 [.t 16],
   ⟨false, [], [], .det 2 (.copy 17), [14, 17], (some 14), none⟩,
   o1 18 (.ext 14 0 1),
   o1 19 (.ext 14 1 1),
   o1 6 (.copy 18),
   o1 7 (.copy 19)])
 (.seq (.rg [o1 21 (.idx .nil),
   o1 22 (.load 3 [] 3 (.t 21) 1 false),
   o3 23 321 [.t 22],
   ⟨false, [], [], .det 2 (.copy 23), [20, 23], (some 20), none⟩,
   o1 24 (.ext 20 0 1),
   o1 25 (.ext 20 1 1),
   o1 8 (.copy 24),
   o1 9 (.copy 25)])
 (.seq (.rg [o1 26 (.copy 6),
   o1 27 (.idx .nil),
   o1 28 (.load 3 [] 1 (.t 27) 1 false),
   o1 29 (.data (.conv .u8) [.t 28]),
   o1 30 (.sli [.i .u8] [.t 29]),
   o1 31 (.bytes 30),
   o1 32 (.data (.bin .add) [.t 26, .t 31]),
   o1 33 (.copy 8),
   o1 34 (.data (.bin .add) [.t 32, .t 33]),
   o1 35 (.idx .nil),
   o1 36 (.load 3 [] 2 (.t 35) 1 false),
   o3 37 338 [.t 36],
   o1 38 (.data (.bin .add) [.t 34, .t 37]),
   o1 4 (.copy 38),
   o1 5 (.lit [.b] [.bool true])])
 .ret)))))
def s_iOrderText : Sig := ⟨[.rd false [.d], .rd true [.d, .d, .sl (.own none) [.d, .d], .d]], (.tup [(false, 1), (false, 1)] [.d, .d])⟩
noncomputable def E_iOrderText : TEnv := envOf [(241, p_iOrderOk), (321, p_iVarText), (338, p_iedgesText)]
noncomputable def f_iOrderText (n : Nat) : Int × (Int × Int × List (Int × Int) × Int) → Option ((ByteArray × Bool) × Unit) := runFn n E_iOrderText c_iOrderText [[.i .i64], [.i .i64, .i .i64, .sl [.i .i64, .i .i64], .i .i64]] [.s, .b] [] [4, 5] .no
noncomputable def g_iOrderText := f_iOrderText BIG
noncomputable def p_iOrderText : TSp := ⟨s_iOrderText, [[.i .i64], [.i .i64, .i .i64, .sl [.i .i64, .i .i64], .i .i64]], [.s, .b], [], Ou.j .no, g_iOrderText⟩
theorem k_iOrderText : chkW PG E_iOrderText 329 s_iOrderText (c_iOrderText.ht 39) .no = some (c_iOrderText.wc E_iOrderText, [4, 5]) := by kernel_rfl
theorem ok_iOrderText : p_iOrderText.Ok PG 329 := mkOk (env_cons ok_iOrderOk (env_cons ok_iVarText (env_cons ok_iedgesText (env_nil PG)))) k_iOrderText (by kernel_rfl)
theorem e_iOrderText (n : Nat) (a0 : Int) (a1 : Int × Int × List (Int × Int) × Int) : f_iOrderText n (a0, a1) =
  Option.bind (g_iOrderOk (a0, a1)) fun r0 =>
  bif !r0.1 then
   some (((ByteArray.mk #[]), false), ())
  else Option.bind (g_iVarText a1.1) fun r1 =>
  Option.bind (g_iVarText a1.2.2.2) fun r2 =>
  bif decide (r1.1.1.size + (bytesStr ([IntKind.wrap .u8 (a1.2.1)])).size ≤ 4611686018427387904) then
   bif decide ((r1.1.1 ++ (bytesStr ([IntKind.wrap .u8 (a1.2.1)]))).size + r2.1.1.size ≤ 4611686018427387904) then
    Option.bind (g_iedgesText a1.2.2.1) fun r3 =>
    bif decide (((r1.1.1 ++ (bytesStr ([IntKind.wrap .u8 (a1.2.1)]))) ++ r2.1.1).size + r3.1.size ≤ 4611686018427387904) then
     some ((((r1.1.1 ++ (bytesStr ([IntKind.wrap .u8 (a1.2.1)]))) ++ r2.1.1) ++ r3.1, true), ())
    else none
   else none
  else none := by kernel_rfl
def c_iRecText : TC :=
 (.seq (.rg [o1 3 (.a (.t 1)),
   o1 4 (.lit [.s] [.string ⟨#[]⟩]),
   o1 5 (.lit [.b] [.bool false])])
 (.seq (.rg [o1 6 (.lit [.s] [.string ⟨#[]⟩]),
   o1 7 (.lit [.b] [.bool false])])
 (.seq (.join [⟨6, [.s], false⟩, ⟨7, [.b], false⟩] 664613997892457936451903530140172224 none (.block 0 (.seq (.join [⟨18, [.b], false⟩] 137438691328 none (.rg [o1 19 (.idx .nil),
   o1 20 (.load 3 [] 0 (.t 19) 1 false),
   o1 21 (.data (.bin .eql) [.t 20, .c (.int .i64 (1))]),
   o1 22 (.copy 21),
   o2 23 (.idx .nil) 3 true,
   o2 24 (.load 3 [] 5 (.t 23) 1 false) 3 true,
   o2 25 (.data (.bin .eql) [.t 24, .c (.int .i64 (0))]) 3 true,
   ⟨false, [], [], .pick 22 (.t 25) (.c (.bool false)), [26], (some 26), none⟩,
   o1 27 (.copy 26),
   o2 28 (.idx .nil) 8 true,
   o2 29 (.load 3 [] 6 (.t 28) 4 false) 8 true,
   ⟨false, [], [], .call 1 135 [.t 29] .no, [30], (some 30), some (8, true)⟩,
   ⟨false, [], [], .pick 27 (.t 30) (.c (.bool false)), [31], (some 31), none⟩,
   o1 32 (.copy 31),
   o2 33 (.idx .nil) 13 true,
   o2 34 (.load 3 [] 10 (.t 33) 4 false) 13 true,
   ⟨false, [], [], .call 1 325 [.t 34] .no, [35], (some 35), some (13, true)⟩,
   ⟨false, [], [], .pick 32 (.t 35) (.c (.bool false)), [36], (some 36), none⟩,
   o1 18 (.copy 36)]))
 (.cond (.t 18)
  (.rg [o1 38 (.idx .nil),
    o1 39 (.load 3 [] 1 (.t 38) 4 false),
    o3 40 326 [.t 39],
    ⟨false, [], [], .det 2 (.copy 40), [37, 40], (some 37), none⟩,
    o1 41 (.ext 37 0 1),
    o1 42 (.ext 37 1 1),
    o1 6 (.copy 41),
    o1 7 (.copy 42)])
  (.seq (.join [⟨43, [.b], false⟩] 9223363240761753600 none (.rg [o1 44 (.idx .nil),
    o1 45 (.load 3 [] 0 (.t 44) 1 false),
    o1 46 (.data (.bin .eql) [.t 45, .c (.int .i64 (2))]),
    o1 47 (.copy 46),
    o2 48 (.idx .nil) 3 true,
    o2 49 (.load 3 [] 1 (.t 48) 4 false) 3 true,
    o2 50 (.build [.i .i64, .i .i64, .i .i64, .i .i64] []) 3 true,
    o2 51 (.eqA [.i, .i, .i, .i] (.t 49) (.t 50) false) 3 true,
    ⟨false, [], [], .pick 47 (.t 51) (.c (.bool false)), [52], (some 52), none⟩,
    o1 53 (.copy 52),
    o2 54 (.idx .nil) 9 true,
    o2 55 (.load 3 [] 10 (.t 54) 4 false) 9 true,
    ⟨false, [], [], .call 1 325 [.t 55] .no, [56], (some 56), some (9, true)⟩,
    ⟨false, [], [], .pick 53 (.t 56) (.c (.bool false)), [57], (some 57), none⟩,
    o1 58 (.copy 57),
    o2 59 (.idx .nil) 14 true,
    o2 60 (.load 3 [] 5 (.t 59) 1 false) 14 true,
    ⟨false, [], [], .call 1 101 [.t 60, .c [.i .i64] [.int .i64 (0)], .c [.i .i64] [.int .i64 (100000)]] .no, [61], (some 61), some (14, true)⟩,
    ⟨false, [], [], .pick 58 (.t 61) (.c (.bool false)), [62], (some 62), none⟩,
    o1 43 (.copy 62)]))
  (.cond (.t 43)
   (.seq (.rg [o1 64 (.idx .nil),
     o1 65 (.load 3 [] 5 (.t 64) 1 false),
     o3 66 321 [.t 65],
     ⟨false, [], [], .det 2 (.copy 66), [63, 66], (some 63), none⟩,
     o1 67 (.ext 63 0 1),
     o1 68 (.ext 63 1 1),
     o1 8 (.copy 67),
     o1 9 (.copy 68)])
   (.seq (.rg [o1 70 (.copy 0),
     o1 71 (.idx .nil),
     o1 72 (.load 3 [] 6 (.t 71) 4 false),
     o3 73 327 [.t 70, .t 72],
     ⟨false, [], [], .det 2 (.copy 73), [69, 73], (some 69), none⟩,
     o1 74 (.ext 69 0 1),
     o1 75 (.ext 69 1 1),
     o1 10 (.copy 74),
     o1 11 (.copy 75)])
   (.seq (.rg [o1 77 (.copy 10),
     o3 78 328 [.t 77],
     ⟨false, [], [], .det 2 (.copy 78), [76, 78], (some 76), none⟩,
     o1 79 (.ext 76 0 1),
     o1 80 (.ext 76 1 1),
     o1 12 (.copy 79),
     o1 13 (.copy 80)])
   (.rg [o1 81 (.copy 8),
     o1 82 (.copy 12),
     o1 83 (.data (.bin .add) [.t 81, .t 82]),
     o1 84 (.copy 11),
     o1 6 (.copy 83),
     o1 7 (.copy 84)]))))
   (.seq (.join [⟨85, [.b], false⟩] 40564780521677113179760911974400 none (.rg [o1 86 (.idx .nil),
     o1 87 (.load 3 [] 0 (.t 86) 1 false),
     o1 88 (.data (.bin .eql) [.t 87, .c (.int .i64 (3))]),
     o1 89 (.copy 88),
     o2 90 (.idx .nil) 3 true,
     o2 91 (.load 3 [] 1 (.t 90) 4 false) 3 true,
     o2 92 (.build [.i .i64, .i .i64, .i .i64, .i .i64] []) 3 true,
     o2 93 (.eqA [.i, .i, .i, .i] (.t 91) (.t 92) false) 3 true,
     ⟨false, [], [], .pick 89 (.t 93) (.c (.bool false)), [94], (some 94), none⟩,
     o1 95 (.copy 94),
     o2 96 (.idx .nil) 9 true,
     o2 97 (.load 3 [] 5 (.t 96) 1 false) 9 true,
     o2 98 (.data (.bin .eql) [.t 97, .c (.int .i64 (0))]) 9 true,
     ⟨false, [], [], .pick 95 (.t 98) (.c (.bool false)), [99], (some 99), none⟩,
     o1 100 (.copy 99),
     o2 101 (.idx .nil) 14 true,
     o2 102 (.load 3 [] 6 (.t 101) 4 false) 14 true,
     ⟨false, [], [], .call 1 135 [.t 102] .no, [103], (some 103), some (14, true)⟩,
     ⟨false, [], [], .pick 100 (.t 103) (.c (.bool false)), [104], (some 104), none⟩,
     o1 85 (.copy 104)]))
   (.cond (.t 85)
    (.seq (.rg [o1 106 (.copy 0),
      o1 107 (.idx .nil),
      o1 108 (.load 3 [] 10 (.t 107) 4 false),
      o3 109 329 [.t 106, .t 108],
      ⟨false, [], [], .det 2 (.copy 109), [105, 109], (some 105), none⟩,
      o1 110 (.ext 105 0 1),
      o1 111 (.ext 105 1 1),
      o1 14 (.copy 110),
      o1 15 (.copy 111)])
    (.seq (.rg [o1 113 (.copy 14),
      o3 114 328 [.t 113],
      ⟨false, [], [], .det 2 (.copy 114), [112, 114], (some 112), none⟩,
      o1 115 (.ext 112 0 1),
      o1 116 (.ext 112 1 1),
      o1 16 (.copy 115),
      o1 17 (.copy 116)])
    (.rg [o1 117 (.copy 16),
      o1 118 (.copy 15),
      o1 6 (.copy 117),
      o1 7 (.copy 118)])))
    .skip))))))))
 (.seq (.seq (.rg [o1 119 (.copy 7),
   o1 120 (.data .not [.t 119])])
 (.cond (.t 120)
  (.seq (.rg [o1 4 (.lit [.s] [.string ⟨#[]⟩]),
    o1 5 (.lit [.b] [.bool false])])
  .ret)
  .skip))
 (.seq (.rg [o1 121 (.idx .nil),
   o1 122 (.load 3 [] 0 (.t 121) 1 false),
   o1 123 (.data (.conv .u8) [.t 122]),
   o1 124 (.sli [.i .u8] [.t 123]),
   o1 125 (.bytes 124),
   o1 126 (.copy 6),
   o1 127 (.data (.bin .add) [.t 125, .t 126]),
   o1 4 (.copy 127),
   o1 5 (.lit [.b] [.bool true])])
 .ret)))))
def s_iRecText : Sig := ⟨[.rd false [.d], .rd true [.d, .d, .d, .d, .d, .d, .d, .d, .sl (.own none) [.d, .d], .sl (.own none) [.d], .d, .d, .sl (.own none) [.d, .d], .d]], (.tup [(false, 1), (false, 1)] [.d, .d])⟩
noncomputable def E_iRecText : TEnv := envOf [(135, p_inoAnswer), (325, p_inoOrder), (326, p_iaskText), (101, p_iin), (321, p_iVarText), (327, p_iAnswerText), (328, p_iShortText), (329, p_iOrderText)]
noncomputable def f_iRecText (n : Nat) : Int × (Int × Int × Int × Int × Int × Int × Int × Bool × List (Int × Int) × List (Int) × Int × Int × List (Int × Int) × Int) → Option ((ByteArray × Bool) × Unit) := runFn n E_iRecText c_iRecText [[.i .i64], [.i .i64, .i .i64, .i .i64, .i .i64, .i .i64, .i .i64, .i .i64, .b, .sl [.i .i64, .i .i64], .sl [.i .i64], .i .i64, .i .i64, .sl [.i .i64, .i .i64], .i .i64]] [.s, .b] [] [4, 5] .no
noncomputable def g_iRecText := f_iRecText BIG
noncomputable def p_iRecText : TSp := ⟨s_iRecText, [[.i .i64], [.i .i64, .i .i64, .i .i64, .i .i64, .i .i64, .i .i64, .i .i64, .b, .sl [.i .i64, .i .i64], .sl [.i .i64], .i .i64, .i .i64, .sl [.i .i64, .i .i64], .i .i64]], [.s, .b], [], Ou.j .no, g_iRecText⟩
theorem k_iRecText : chkW PG E_iRecText 272 s_iRecText (c_iRecText.ht 128) .no = some (c_iRecText.wc E_iRecText, [4, 5]) := by kernel_rfl
theorem ok_iRecText : p_iRecText.Ok PG 272 := mkOk (env_cons ok_inoAnswer (env_cons ok_inoOrder (env_cons ok_iaskText (env_cons ok_iin (env_cons ok_iVarText (env_cons ok_iAnswerText (env_cons ok_iShortText (env_cons ok_iOrderText (env_nil PG))))))))) k_iRecText (by kernel_rfl)
theorem e_iRecText (n : Nat) (a0 : Int) (a1 : Int × Int × Int × Int × Int × Int × Int × Bool × List (Int × Int) × List (Int) × Int × Int × List (Int × Int) × Int) : f_iRecText n (a0, a1) =
  Option.bind (Option.bind (bif decide (a1.1 = (1 : Int)) then
     bif decide (a1.2.2.2.2.2.1 = (0 : Int)) then
      Option.bind (g_inoAnswer (a1.2.2.2.2.2.2.1, a1.2.2.2.2.2.2.2.1, a1.2.2.2.2.2.2.2.2.1, a1.2.2.2.2.2.2.2.2.2.1)) fun r0 =>
      bif r0.1 then
       Option.bind (g_inoOrder a1.2.2.2.2.2.2.2.2.2.2) fun r1 =>
       some r1.1
      else some false
     else some false
    else some false : Option (Bool)) fun x2 =>
   bif x2 then
    Option.bind (g_iaskText (a1.2.1, a1.2.2.1, a1.2.2.2.1, a1.2.2.2.2.1)) fun r3 =>
    some (r3.1.1, r3.1.2)
   else Option.bind (bif decide (a1.1 = (2 : Int)) then
     bif (decide (a1.2.1 = (0 : Int)) && (decide (a1.2.2.1 = (0 : Int)) && (decide (a1.2.2.2.1 = (0 : Int)) && (decide (a1.2.2.2.2.1 = (0 : Int)) && true)))) then
      Option.bind (g_inoOrder a1.2.2.2.2.2.2.2.2.2.2) fun r4 =>
      bif r4.1 then
       Option.bind (g_iin (a1.2.2.2.2.2.1, (0 : Int), (100000 : Int))) fun r5 =>
       some r5.1
      else some false
     else some false
    else some false : Option (Bool)) fun x6 =>
   bif x6 then
    Option.bind (g_iVarText a1.2.2.2.2.2.1) fun r7 =>
    Option.bind (g_iAnswerText (a0, (a1.2.2.2.2.2.2.1, a1.2.2.2.2.2.2.2.1, a1.2.2.2.2.2.2.2.2.1, a1.2.2.2.2.2.2.2.2.2.1))) fun r8 =>
    Option.bind (g_iShortText r8.1.1) fun r9 =>
    bif decide (r7.1.1.size + r9.1.1.size ≤ 4611686018427387904) then
     some (r7.1.1 ++ r9.1.1, r8.1.2)
    else none
   else Option.bind (bif decide (a1.1 = (3 : Int)) then
     bif (decide (a1.2.1 = (0 : Int)) && (decide (a1.2.2.1 = (0 : Int)) && (decide (a1.2.2.2.1 = (0 : Int)) && (decide (a1.2.2.2.2.1 = (0 : Int)) && true)))) then
      bif decide (a1.2.2.2.2.2.1 = (0 : Int)) then
       Option.bind (g_inoAnswer (a1.2.2.2.2.2.2.1, a1.2.2.2.2.2.2.2.1, a1.2.2.2.2.2.2.2.2.1, a1.2.2.2.2.2.2.2.2.2.1)) fun r10 =>
       some r10.1
      else some false
     else some false
    else some false : Option (Bool)) fun x11 =>
   bif x11 then
    Option.bind (g_iOrderText (a0, a1.2.2.2.2.2.2.2.2.2.2)) fun r12 =>
    Option.bind (g_iShortText r12.1.1) fun r13 =>
    some (r13.1.1, r12.1.2)
   else some ((ByteArray.mk #[]), false) : Option (ByteArray × Bool)) fun x14 =>
  bif !x14.2 then
   some (((ByteArray.mk #[]), false), ())
  else bif decide ((bytesStr ([IntKind.wrap .u8 (a1.1)])).size + x14.1.size ≤ 4611686018427387904) then
   some (((bytesStr ([IntKind.wrap .u8 (a1.1)])) ++ x14.1, true), ())
  else none := by kernel_rfl
def c_iReadRec : TC :=
 (.seq (.rg [⟨false, [], [], .det 2 (.a (.c [.i .i64, .i .i64, .i .i64, .i .i64, .i .i64, .i .i64, .i .i64, .b, .sl [.i .i64, .i .i64], .sl [.i .i64], .i .i64, .i .i64, .sl [.i .i64, .i .i64], .i .i64] [.int .i64 (0), .int .i64 (0), .int .i64 (0), .int .i64 (0), .int .i64 (0), .int .i64 (0), .int .i64 (0), .bool false, .slice none 0 0, .slice none 0 0, .int .i64 (0), .int .i64 (0), .slice none 0 0, .int .i64 (0)])), [4, 1000000001], (some 4), none⟩,
   o1 5 (.lit [.b] [.bool false])])
 (.seq (.rg [o1 11 (.copy 1),
   o1 12 (.build [.s, .i .i64, .b] [(0, .t 11)]),
   o1 13 (.a (.t 12)),
   o1 6 (.p0)])
 (.seq (.rg [⟨false, [], [], .det 2 (.a (.c [.i .i64, .i .i64, .i .i64, .i .i64, .i .i64, .i .i64, .i .i64, .b, .sl [.i .i64, .i .i64], .sl [.i .i64], .i .i64, .i .i64, .sl [.i .i64, .i .i64], .i .i64] [.int .i64 (0), .int .i64 (0), .int .i64 (0), .int .i64 (0), .int .i64 (0), .int .i64 (0), .int .i64 (0), .bool false, .slice none 0 0, .slice none 0 0, .int .i64 (0), .int .i64 (0), .slice none 0 0, .int .i64 (0)])), [7, 1000000001], (some 7), none⟩])
 (.seq (.rg [o1 14 (.same 6),
   ⟨false, [], [], .call 2 267 [.t 13] (.mp 0), [15, 13], (some 15), none⟩,
   o1 16 (.idx .nil),
   o4 1 [7] (.store 7 [] 0 (.t 16) (.t 15))])
 (.seq (.rg [o1 8 (.lit [.b] [.bool true])])
 (.seq (.join [⟨13, [.s, .i .i64, .b], false⟩, ⟨7, [.i .i64, .i .i64, .i .i64, .i .i64, .i .i64, .i .i64, .i .i64, .b, .sl [.i .i64, .i .i64], .sl [.i .i64], .i .i64, .i .i64, .sl [.i .i64, .i .i64], .i .i64], false⟩, ⟨8, [.b], false⟩] 1152921504606724480 none (.seq (.rg [o1 17 (.idx .nil),
   o1 18 (.load 7 [] 0 (.t 17) 1 false)])
 (.block 0 (.seq (.rg [o1 20 (.data (.bin .eql) [.t 18, .c (.int .i64 (1))]),
   o1 19 (.copy 20)])
 (.cond (.t 19)
  (.seq (.rg [o1 21 (.same 6),
    ⟨false, [], [], .call 2 268 [.t 13] (.mp 0), [22, 13], (some 22), none⟩,
    o1 23 (.idx .nil),
    o1 24 (.idx (.t 23)),
    o4 1 [7] (.store 7 [] 1 (.t 24) (.t 22))])
  (.seq (.rg [o1 25 (.same 6),
    ⟨false, [], [], .call 2 268 [.t 13] (.mp 0), [26, 13], (some 26), none⟩,
    o1 27 (.idx .nil),
    o1 28 (.idx (.t 27)),
    o4 1 [7] (.store 7 [] 2 (.t 28) (.t 26))])
  (.seq (.rg [o1 29 (.same 6),
    ⟨false, [], [], .call 2 268 [.t 13] (.mp 0), [30, 13], (some 30), none⟩,
    o1 31 (.idx .nil),
    o1 32 (.idx (.t 31)),
    o4 1 [7] (.store 7 [] 3 (.t 32) (.t 30))])
  (.rg [o1 33 (.same 6),
    ⟨false, [], [], .call 2 268 [.t 13] (.mp 0), [34, 13], (some 34), none⟩,
    o1 35 (.idx .nil),
    o1 36 (.idx (.t 35)),
    o4 1 [7] (.store 7 [] 4 (.t 36) (.t 34))]))))
  (.seq (.rg [o1 38 (.data (.bin .eql) [.t 18, .c (.int .i64 (2))]),
    o1 37 (.copy 38)])
  (.cond (.t 37)
   (.seq (.rg [o1 39 (.same 6),
     ⟨false, [], [], .call 2 268 [.t 13] (.mp 0), [40, 13], (some 40), none⟩,
     o1 41 (.idx .nil),
     o4 1 [7] (.store 7 [] 5 (.t 41) (.t 40))])
   (.rg [o1 43 (.copy 0),
     o1 44 (.same 6),
     ⟨false, [], [], .call 2 270 [.t 13] (.mp 0), [45, 13], (some 45), none⟩,
     o3 46 269 [.t 43, .t 45],
     ⟨false, [], [], .det 2 (.copy 46), [42, 46], (some 42), none⟩,
     ⟨false, [], [], .det 2 (.ext 42 0 4), [47, 42], (some 47), none⟩,
     o1 48 (.ext 42 4 1),
     o1 49 (.idx .nil),
     o4 2 [7, 47] (.store 7 [] 6 (.t 49) (.t 47)),
     o1 8 (.copy 48)]))
   (.seq (.rg [o1 51 (.data (.bin .eql) [.t 18, .c (.int .i64 (3))]),
     o1 50 (.copy 51)])
   (.cond (.t 50)
    (.rg [o1 53 (.copy 0),
      o1 54 (.same 6),
      ⟨false, [], [], .call 2 270 [.t 13] (.mp 0), [55, 13], (some 55), none⟩,
      o3 56 271 [.t 53, .t 55],
      ⟨false, [], [], .det 2 (.copy 56), [52, 56], (some 52), none⟩,
      ⟨false, [], [], .det 2 (.ext 52 0 4), [57, 52], (some 57), none⟩,
      o1 58 (.ext 52 4 1),
      o1 59 (.idx .nil),
      o4 2 [7, 57] (.store 7 [] 10 (.t 59) (.t 57)),
      o1 8 (.copy 58)])
    .skip)))))))))
 (.seq (.seq (.rg [o1 61 (.copy 0),
   o1 62 (.load 7 [] 0 .nil 14 true),
   o3 63 272 [.t 61, .t 62],
   ⟨false, [], [], .det 2 (.copy 63), [60, 63], (some 60), none⟩,
   o1 64 (.ext 60 0 1),
   o1 65 (.ext 60 1 1),
   o1 9 (.copy 64),
   o1 10 (.copy 65)])
 (.seq (.join [⟨81, [.b], false⟩] 4835629491482221860626432 none (.rg [o1 66 (.copy 8),
   o1 67 (.data .not [.t 66]),
   o1 68 (.copy 67),
   o2 69 (.same 6) 2 false,
   ⟨false, [], [], .call 2 273 [.t 13] (.mp 0), [70, 13], (some 70), some (2, false)⟩,
   o2 71 (.data .not [.t 70]) 2 false,
   ⟨false, [], [], .pick 68 (.c (.bool true)) (.t 71), [72], (some 72), none⟩,
   o1 73 (.copy 72),
   o2 74 (.copy 10) 7 false,
   o2 75 (.data .not [.t 74]) 7 false,
   ⟨false, [], [], .pick 73 (.c (.bool true)) (.t 75), [76], (some 76), none⟩,
   o1 77 (.copy 76),
   o2 78 (.copy 9) 11 false,
   o2 79 (.copy 1) 11 false,
   o2 80 (.data (.bin .neq) [.t 78, .t 79]) 11 false,
   ⟨false, [], [], .pick 77 (.c (.bool true)) (.t 80), [81], (some 81), none⟩]))
 (.cond (.t 81)
  (.seq (.rg [o1 82 (.build [.i .i64, .i .i64, .i .i64, .i .i64, .i .i64, .i .i64, .i .i64, .b, .sl [.i .i64, .i .i64], .sl [.i .i64], .i .i64, .i .i64, .sl [.i .i64, .i .i64], .i .i64] []),
    o4 2 [4, 82] (.store 4 [] 0 .nil (.t 82)),
    o1 5 (.lit [.b] [.bool false])])
  .ret)
  .skip)))
 (.seq (.rg [o1 83 (.load 7 [] 0 .nil 14 true),
   ⟨false, [83], [], .det 2 (.store 4 [] 0 .nil (.t 83)), [4, 83, 83, 7, 62], none, none⟩,
   o1 5 (.lit [.b] [.bool true])])
 .ret))))))))
def s_iReadRec : Sig := ⟨[.rd false [.d], .rd false [.d]], (.tup [(true, 14), (false, 1)] [.d, .d, .d, .d, .d, .d, .d, .d, .sl (.own none) [.d, .d], .sl (.own none) [.d], .d, .d, .sl (.own none) [.d, .d], .d, .d])⟩
noncomputable def E_iReadRec : TEnv := envOf [(267, p_ireader_one), (268, p_ireader_num), (270, p_ireader_short), (269, p_iReadAnswer), (271, p_iReadOrder), (272, p_iRecText), (273, p_ireader_ends)]
noncomputable def f_iReadRec (n : Nat) : Int × ByteArray → Option ((Int × Int × Int × Int × Int × Int × Int × Bool × List (Int × Int) × List (Int) × Int × Int × List (Int × Int) × Int × Bool) × Unit) := runFn n E_iReadRec c_iReadRec [[.i .i64], [.s]] [.i .i64, .i .i64, .i .i64, .i .i64, .i .i64, .i .i64, .i .i64, .b, .sl [.i .i64, .i .i64], .sl [.i .i64], .i .i64, .i .i64, .sl [.i .i64, .i .i64], .i .i64, .b] [] [4, 5] .no
noncomputable def g_iReadRec := f_iReadRec BIG
noncomputable def p_iReadRec : TSp := ⟨s_iReadRec, [[.i .i64], [.s]], [.i .i64, .i .i64, .i .i64, .i .i64, .i .i64, .i .i64, .i .i64, .b, .sl [.i .i64, .i .i64], .sl [.i .i64], .i .i64, .i .i64, .sl [.i .i64, .i .i64], .i .i64, .b], [], Ou.j .no, g_iReadRec⟩
theorem k_iReadRec : chkW PG E_iReadRec 144 s_iReadRec (c_iReadRec.ht 84) .no = some (c_iReadRec.wc E_iReadRec, [4, 5]) := by kernel_rfl
theorem ok_iReadRec : p_iReadRec.Ok PG 144 := mkOk (env_cons ok_ireader_one (env_cons ok_ireader_num (env_cons ok_ireader_short (env_cons ok_iReadAnswer (env_cons ok_iReadOrder (env_cons ok_iRecText (env_cons ok_ireader_ends (env_nil PG)))))))) k_iReadRec (by kernel_rfl)
theorem e_iReadRec (n : Nat) (a0 : Int) (a1 : ByteArray) : f_iReadRec n (a0, a1) =
  Option.bind (g_ireader_one (a1, (0 : Int), false)) fun r0 =>
  Option.bind (bif decide (r0.1 = (1 : Int)) then
    Option.bind (g_ireader_num r0.2) fun r1 =>
    Option.bind (g_ireader_num r1.2) fun r2 =>
    Option.bind (g_ireader_num r2.2) fun r3 =>
    Option.bind (g_ireader_num r3.2) fun r4 =>
    some (r4.2, (r0.1, r1.1, r2.1, r3.1, r4.1, (0 : Int), (0 : Int), false, [], [], (0 : Int), (0 : Int), [], (0 : Int)), true)
   else bif decide (r0.1 = (2 : Int)) then
    Option.bind (g_ireader_num r0.2) fun r5 =>
    Option.bind (g_ireader_short r5.2) fun r6 =>
    Option.bind (g_iReadAnswer (a0, r6.1)) fun r7 =>
    some (r6.2, (r0.1, (0 : Int), (0 : Int), (0 : Int), (0 : Int), r5.1, r7.1.1, r7.1.2.1, r7.1.2.2.1, r7.1.2.2.2.1, (0 : Int), (0 : Int), [], (0 : Int)), r7.1.2.2.2.2)
   else bif decide (r0.1 = (3 : Int)) then
    Option.bind (g_ireader_short r0.2) fun r8 =>
    Option.bind (g_iReadOrder (a0, r8.1)) fun r9 =>
    some (r8.2, (r0.1, (0 : Int), (0 : Int), (0 : Int), (0 : Int), (0 : Int), (0 : Int), false, [], [], r9.1.1, r9.1.2.1, r9.1.2.2.1, r9.1.2.2.2.1), r9.1.2.2.2.2)
   else some (r0.2, (r0.1, (0 : Int), (0 : Int), (0 : Int), (0 : Int), (0 : Int), (0 : Int), false, [], [], (0 : Int), (0 : Int), [], (0 : Int)), true) : Option ((ByteArray × Int × Bool) × (Int × Int × Int × Int × Int × Int × Int × Bool × List (Int × Int) × List (Int) × Int × Int × List (Int × Int) × Int) × Bool)) fun x10 =>
  Option.bind (g_iRecText (a0, x10.2.1)) fun r11 =>
  Option.bind (bif !x10.2.2 then
    some true
   else Option.bind (g_ireader_ends x10.1) fun r12 =>
   bif !r12.1 then
    some true
   else bif !r11.1.2 then
    some true
   else some (!(r11.1.1.toList == a1.toList)) : Option (Bool)) fun x13 =>
  bif x13 then
   some (((0 : Int), (0 : Int), (0 : Int), (0 : Int), (0 : Int), (0 : Int), (0 : Int), false, [], [], (0 : Int), (0 : Int), [], (0 : Int), false), ())
  else some ((x10.2.1.1, x10.2.1.2.1, x10.2.1.2.2.1, x10.2.1.2.2.2.1, x10.2.1.2.2.2.2.1, x10.2.1.2.2.2.2.2.1, x10.2.1.2.2.2.2.2.2.1, x10.2.1.2.2.2.2.2.2.2.1, x10.2.1.2.2.2.2.2.2.2.2.1, x10.2.1.2.2.2.2.2.2.2.2.2.1, x10.2.1.2.2.2.2.2.2.2.2.2.2.1, x10.2.1.2.2.2.2.2.2.2.2.2.2.2.1, x10.2.1.2.2.2.2.2.2.2.2.2.2.2.2.1, x10.2.1.2.2.2.2.2.2.2.2.2.2.2.2.2, true), ()) := by kernel_rfl
def c_iReadRecs : TC :=
 (.seq (.rg [o1 4 (.lit [.sl [.i .i64, .i .i64, .i .i64, .i .i64, .i .i64, .i .i64, .i .i64, .b, .sl [.i .i64, .i .i64], .sl [.i .i64], .i .i64, .i .i64, .sl [.i .i64, .i .i64], .i .i64]] [.slice none 0 0]),
   o1 5 (.lit [.i .i64] [.int .i64 (0)])])
 (.seq (.rg [o1 6 (.lit [.sl [.i .i64, .i .i64, .i .i64, .i .i64, .i .i64, .i .i64, .i .i64, .b, .sl [.i .i64, .i .i64], .sl [.i .i64], .i .i64, .i .i64, .sl [.i .i64, .i .i64], .i .i64]] [.slice none 0 0])])
 (.seq (.seq (.rg [o1 13 (.copy 1),
   o1 14 (.data .slen [.t 13]),
   o1 15 (.data (.bin .gtr) [.t 14, .c (.int .i64 (20000))])])
 (.cond (.t 15)
  (.seq (.rg [o1 4 (.lit [.sl [.i .i64, .i .i64, .i .i64, .i .i64, .i .i64, .i .i64, .i .i64, .b, .sl [.i .i64, .i .i64], .sl [.i .i64], .i .i64, .i .i64, .sl [.i .i64, .i .i64], .i .i64]] [.slice none 0 0]),
    o1 5 (.lit [.i .i64] [.int .i64 (0)])])
  .ret)
  .skip))
 (.seq (.rg [o1 7 (.lit [.i .i64] [.int .i64 (0)])])
 (.block 0 (.loop [⟨6, [.sl [.i .i64, .i .i64, .i .i64, .i .i64, .i .i64, .i .i64, .i .i64, .b, .sl [.i .i64, .i .i64], .sl [.i .i64], .i .i64, .i .i64, .sl [.i .i64, .i .i64], .i .i64]], false⟩, ⟨7, [.i .i64], false⟩] 4398046453744
  (.block 1 (.seq (.rg [o1 17 (.copy 1),
    o1 18 (.copy 7),
    o3 19 143 [.t 17, .t 18],
    ⟨false, [], [], .det 2 (.copy 19), [16, 19], (some 16), none⟩,
    o1 20 (.ext 16 0 1),
    o1 21 (.ext 16 1 1),
    o1 22 (.ext 16 2 1),
    o1 8 (.copy 20),
    o1 9 (.copy 21),
    o1 10 (.copy 22)])
  (.seq (.rg [o1 24 (.copy 0),
    o1 25 (.copy 8),
    o3 26 144 [.t 24, .t 25],
    ⟨false, [], [], .det 2 (.copy 26), [23, 26], (some 23), none⟩,
    ⟨false, [], [], .det 2 (.ext 23 0 14), [27, 23], (some 27), none⟩,
    o1 28 (.ext 23 14 1),
    ⟨false, [], [], .det 2 (.a (.c [.i .i64, .i .i64, .i .i64, .i .i64, .i .i64, .i .i64, .i .i64, .b, .sl [.i .i64, .i .i64], .sl [.i .i64], .i .i64, .i .i64, .sl [.i .i64, .i .i64], .i .i64] [.int .i64 (0), .int .i64 (0), .int .i64 (0), .int .i64 (0), .int .i64 (0), .int .i64 (0), .int .i64 (0), .bool false, .slice none 0 0, .slice none 0 0, .int .i64 (0), .int .i64 (0), .slice none 0 0, .int .i64 (0)])), [11, 1000000001], (some 11), none⟩,
    o4 2 [11, 27] (.store 11 [] 0 .nil (.t 27)),
    o1 12 (.copy 28)])
  (.seq (.seq (.join [⟨34, [.b], false⟩] 33822867456 none (.rg [o1 29 (.copy 10),
    o1 30 (.data .not [.t 29]),
    o1 31 (.copy 30),
    o2 32 (.copy 12) 2 false,
    o2 33 (.data .not [.t 32]) 2 false,
    ⟨false, [], [], .pick 31 (.c (.bool true)) (.t 33), [34], (some 34), none⟩]))
  (.cond (.t 34)
   (.seq (.rg [⟨false, [], [], .det 2 (.copy 6), [35, 6], (some 35), none⟩,
     o1 36 (.copy 7),
     ⟨false, [], [], .det 2 (.copy 35), [4, 35], (some 4), none⟩,
     o1 5 (.copy 36)])
   .ret)
   .skip))
  (.seq (.rg [⟨false, [], [], .det 2 (.copy 6), [37, 6], (some 37), none⟩,
    o1 38 (.load 11 [] 0 .nil 14 true),
    ⟨false, [38], [], .det 2 (.sli [.i .i64, .i .i64, .i .i64, .i .i64, .i .i64, .i .i64, .i .i64, .b, .sl [.i .i64, .i .i64], .sl [.i .i64], .i .i64, .i .i64, .sl [.i .i64, .i .i64], .i .i64] [.t 38]), [39, 38, 38, 11], (some 39), none⟩,
    ⟨false, [], [], .det 3 (.app (some 37) 39), [40, 37, 39], (some 40), none⟩,
    ⟨false, [], [], .det 2 (.copy 40), [6, 40], (some 6), none⟩])
  (.rg [o1 41 (.copy 9),
    o1 7 (.copy 41)]))))))))))))
def s_iReadRecs : Sig := ⟨[.rd false [.d], .rd false [.d]], (.tup [(false, 1), (false, 1)] [.sl (.own none) [.d, .d, .d, .d, .d, .d, .d, .d, .sl (.own none) [.d, .d], .sl (.own none) [.d], .d, .d, .sl (.own none) [.d, .d], .d], .d])⟩
noncomputable def E_iReadRecs : TEnv := envOf [(143, p_iframeAt), (144, p_iReadRec)]
noncomputable def f_iReadRecs (n : Nat) : Int × ByteArray → Option ((List (Int × Int × Int × Int × Int × Int × Int × Bool × List (Int × Int) × List (Int) × Int × Int × List (Int × Int) × Int) × Int) × Unit) := runFn n E_iReadRecs c_iReadRecs [[.i .i64], [.s]] [.sl [.i .i64, .i .i64, .i .i64, .i .i64, .i .i64, .i .i64, .i .i64, .b, .sl [.i .i64, .i .i64], .sl [.i .i64], .i .i64, .i .i64, .sl [.i .i64, .i .i64], .i .i64], .i .i64] [] [4, 5] .no
noncomputable def g_iReadRecs := f_iReadRecs BIG
noncomputable def p_iReadRecs : TSp := ⟨s_iReadRecs, [[.i .i64], [.s]], [.sl [.i .i64, .i .i64, .i .i64, .i .i64, .i .i64, .i .i64, .i .i64, .b, .sl [.i .i64, .i .i64], .sl [.i .i64], .i .i64, .i .i64, .sl [.i .i64, .i .i64], .i .i64], .i .i64], [], Ou.j .no, g_iReadRecs⟩
theorem k_iReadRecs : chkW PG E_iReadRecs 55 s_iReadRecs (c_iReadRecs.ht 42) .no = some (c_iReadRecs.wc E_iReadRecs, [4, 5]) := by kernel_rfl
theorem ok_iReadRecs : p_iReadRecs.Ok PG 55 := mkOk (env_cons ok_iframeAt (env_cons ok_iReadRec (env_nil PG))) k_iReadRecs (by kernel_rfl)
theorem e_iReadRecs (n : Nat) (a0 : Int) (a1 : ByteArray) : f_iReadRecs n (a0, a1) =
  bif decide ((20000 : Int) < (a1.size : Int)) then
   some (([], (0 : Int)), ())
  else loopT n (X := (List (Int × Int × Int × Int × Int × Int × Int × Bool × (List (Int × Int)) × (List (Int)) × Int × Int × (List (Int × Int)) × Int)) × Int) (B := (List (Int × Int × Int × Int × Int × Int × Int × Bool × (List (Int × Int)) × (List (Int)) × Int × Int × (List (Int × Int)) × Int) × Int) × Unit) (fun self1 x0 =>
   Option.bind (g_iframeAt (a1, x0.2)) fun r2 =>
   Option.bind (g_iReadRec (a0, r2.1.1)) fun r3 =>
   Option.bind (bif !r2.1.2.2 then
     some true
    else some !r3.1.2.2.2.2.2.2.2.2.2.2.2.2.2.2 : Option (Bool)) fun x4 =>
   bif x4 then
    some (x0, ())
   else bif decide (x0.1.length + ([(r3.1.1, r3.1.2.1, r3.1.2.2.1, r3.1.2.2.2.1, r3.1.2.2.2.2.1, r3.1.2.2.2.2.2.1, r3.1.2.2.2.2.2.2.1, r3.1.2.2.2.2.2.2.2.1, r3.1.2.2.2.2.2.2.2.2.1, r3.1.2.2.2.2.2.2.2.2.2.1, r3.1.2.2.2.2.2.2.2.2.2.2.1, r3.1.2.2.2.2.2.2.2.2.2.2.2.1, r3.1.2.2.2.2.2.2.2.2.2.2.2.2.1, r3.1.2.2.2.2.2.2.2.2.2.2.2.2.2.1)]).length ≤ 4294967296) then
    self1 (x0.1 ++ ([(r3.1.1, r3.1.2.1, r3.1.2.2.1, r3.1.2.2.2.1, r3.1.2.2.2.2.1, r3.1.2.2.2.2.2.1, r3.1.2.2.2.2.2.2.1, r3.1.2.2.2.2.2.2.2.1, r3.1.2.2.2.2.2.2.2.2.1, r3.1.2.2.2.2.2.2.2.2.2.1, r3.1.2.2.2.2.2.2.2.2.2.2.1, r3.1.2.2.2.2.2.2.2.2.2.2.2.1, r3.1.2.2.2.2.2.2.2.2.2.2.2.2.1, r3.1.2.2.2.2.2.2.2.2.2.2.2.2.2.1)]), r2.1.2.1)
   else none) ([], (0 : Int)) := by kernel_rfl
def c_leqAsk : TC :=
 (.seq (.rg [o1 2 (.a (.t 0)),
   o1 3 (.a (.t 1)),
   o1 4 (.lit [.b] [.bool false])])
 (.seq (.seq (.rg [o1 5 (.idx .nil),
   o1 6 (.load 2 [] 0 (.t 5) 1 false),
   o1 7 (.idx .nil),
   o1 8 (.load 3 [] 0 (.t 7) 1 false),
   o1 9 (.data (.bin .neq) [.t 6, .t 8])])
 (.cond (.t 9)
  (.seq (.rg [o1 4 (.lit [.b] [.bool false])])
  .ret)
  .skip))
 (.seq (.seq (.rg [o1 10 (.idx .nil),
   o1 11 (.load 2 [] 1 (.t 10) 1 false),
   o1 12 (.idx .nil),
   o1 13 (.load 3 [] 1 (.t 12) 1 false),
   o1 14 (.data (.bin .neq) [.t 11, .t 13])])
 (.cond (.t 14)
  (.seq (.rg [o1 4 (.lit [.b] [.bool false])])
  .ret)
  .skip))
 (.seq (.seq (.rg [o1 15 (.idx .nil),
   o1 16 (.load 2 [] 2 (.t 15) 1 false),
   o1 17 (.idx .nil),
   o1 18 (.load 3 [] 2 (.t 17) 1 false),
   o1 19 (.data (.bin .neq) [.t 16, .t 18])])
 (.cond (.t 19)
  (.seq (.rg [o1 4 (.lit [.b] [.bool false])])
  .ret)
  .skip))
 (.seq (.seq (.rg [o1 20 (.idx .nil),
   o1 21 (.load 2 [] 3 (.t 20) 1 false),
   o1 22 (.idx .nil),
   o1 23 (.load 3 [] 3 (.t 22) 1 false),
   o1 24 (.data (.bin .neq) [.t 21, .t 23])])
 (.cond (.t 24)
  (.seq (.rg [o1 4 (.lit [.b] [.bool false])])
  .ret)
  .skip))
 (.seq (.rg [o1 4 (.lit [.b] [.bool true])])
 .ret))))))
def s_leqAsk : Sig := ⟨[.rd true [.d, .d, .d, .d], .rd true [.d, .d, .d, .d]], (.one false [.d])⟩
noncomputable def E_leqAsk : TEnv := envOf []
noncomputable def f_leqAsk (n : Nat) : (Int × Int × Int × Int) × (Int × Int × Int × Int) → Option ((Bool) × Unit) := runFn n E_leqAsk c_leqAsk [[.i .i64, .i .i64, .i .i64, .i .i64], [.i .i64, .i .i64, .i .i64, .i .i64]] [.b] [] [4] .no
noncomputable def g_leqAsk := f_leqAsk BIG
noncomputable def p_leqAsk : TSp := ⟨s_leqAsk, [[.i .i64, .i .i64, .i .i64, .i .i64], [.i .i64, .i .i64, .i .i64, .i .i64]], [.b], [], Ou.j .no, g_leqAsk⟩
theorem k_leqAsk : chkW PG E_leqAsk 274 s_leqAsk (c_leqAsk.ht 25) .no = some (c_leqAsk.wc E_leqAsk, [4]) := by kernel_rfl
theorem ok_leqAsk : p_leqAsk.Ok PG 274 := mkOk (env_nil PG) k_leqAsk (by kernel_rfl)
theorem e_leqAsk (n : Nat) (a0 : Int × Int × Int × Int) (a1 : Int × Int × Int × Int) : f_leqAsk n (a0, a1) =
  bif !decide (a0.1 = a1.1) then
   some (false, ())
  else bif !decide (a0.2.1 = a1.2.1) then
   some (false, ())
  else bif !decide (a0.2.2.1 = a1.2.2.1) then
   some (false, ())
  else bif !decide (a0.2.2.2 = a1.2.2.2) then
   some (false, ())
  else some (true, ()) := by kernel_rfl
def c_leqEdge : TC :=
 (.seq (.rg [o1 2 (.a (.t 0)),
   o1 3 (.a (.t 1)),
   o1 4 (.lit [.b] [.bool false])])
 (.seq (.seq (.rg [o1 5 (.idx .nil),
   o1 6 (.load 2 [] 0 (.t 5) 1 false),
   o1 7 (.idx .nil),
   o1 8 (.load 3 [] 0 (.t 7) 1 false),
   o1 9 (.data (.bin .neq) [.t 6, .t 8])])
 (.cond (.t 9)
  (.seq (.rg [o1 4 (.lit [.b] [.bool false])])
  .ret)
  .skip))
 (.seq (.seq (.rg [o1 10 (.idx .nil),
   o1 11 (.load 2 [] 1 (.t 10) 1 false),
   o1 12 (.idx .nil),
   o1 13 (.load 3 [] 1 (.t 12) 1 false),
   o1 14 (.data (.bin .neq) [.t 11, .t 13])])
 (.cond (.t 14)
  (.seq (.rg [o1 4 (.lit [.b] [.bool false])])
  .ret)
  .skip))
 (.seq (.rg [o1 4 (.lit [.b] [.bool true])])
 .ret))))
def s_leqEdge : Sig := ⟨[.rd true [.d, .d], .rd true [.d, .d]], (.one false [.d])⟩
noncomputable def E_leqEdge : TEnv := envOf []
noncomputable def f_leqEdge (n : Nat) : (Int × Int) × (Int × Int) → Option ((Bool) × Unit) := runFn n E_leqEdge c_leqEdge [[.i .i64, .i .i64], [.i .i64, .i .i64]] [.b] [] [4] .no
noncomputable def g_leqEdge := f_leqEdge BIG
noncomputable def p_leqEdge : TSp := ⟨s_leqEdge, [[.i .i64, .i .i64], [.i .i64, .i .i64]], [.b], [], Ou.j .no, g_leqEdge⟩
theorem k_leqEdge : chkW PG E_leqEdge 288 s_leqEdge (c_leqEdge.ht 15) .no = some (c_leqEdge.wc E_leqEdge, [4]) := by kernel_rfl
theorem ok_leqEdge : p_leqEdge.Ok PG 288 := mkOk (env_nil PG) k_leqEdge (by kernel_rfl)
theorem e_leqEdge (n : Nat) (a0 : Int × Int) (a1 : Int × Int) : f_leqEdge n (a0, a1) =
  bif !decide (a0.1 = a1.1) then
   some (false, ())
  else bif !decide (a0.2 = a1.2) then
   some (false, ())
  else some (true, ()) := by kernel_rfl
def c_leqEdgeS : TC :=
 (.seq (.rg [o1 4 (.lit [.b] [.bool false])])
 (.seq (.seq (.rg [o1 6 (.copy 0),
   o1 7 (.len 6),
   o1 8 (.copy 1),
   o1 9 (.len 8),
   o1 10 (.data (.bin .neq) [.t 7, .t 9])])
 (.cond (.t 10)
  (.seq (.rg [o1 4 (.lit [.b] [.bool false])])
  .ret)
  .skip))
 (.seq (.join [] 134215728 (some [⟨4, [.b], false⟩]) (.seq (.rg [o1 5 (.lit [.i .i64] [.int .i64 (0)])])
 (.block 0 (.loop [⟨5, [.i .i64], false⟩] 134215728
  (.seq (.seq (.rg [o1 11 (.copy 5),
    o1 12 (.copy 0),
    o1 13 (.len 12),
    o1 14 (.data (.bin .lss) [.t 11, .t 13])])
  (.cond (.t 14)
   .skip
   (.exit 0)))
  (.seq (.block 1 (.seq (.rg [o1 17 (.copy 0),
    o1 18 (.copy 5),
    o1 19 (.index 17 (.t 18)),
    o1 20 (.load 17 [(0, 2)] 0 (.t 19) 2 false),
    o1 21 (.copy 1),
    o1 22 (.copy 5),
    o1 23 (.index 21 (.t 22)),
    o1 24 (.load 21 [(0, 2)] 0 (.t 23) 2 false),
    o3 25 288 [.t 20, .t 24],
    o1 26 (.data .not [.t 25])])
  (.cond (.t 26)
   (.seq (.rg [o1 4 (.lit [.b] [.bool false])])
   .ret)
   .skip)))
  (.rg [o1 15 (.copy 5),
    o1 16 (.data (.bin .add) [.t 15, .c (.int .i64 (1))]),
    o1 5 (.copy 16)])))))))
 (.seq (.rg [o1 4 (.lit [.b] [.bool true])])
 .ret))))
def s_leqEdgeS : Sig := ⟨[.rd false [.sl (.own none) [.d, .d]], .rd false [.sl (.own none) [.d, .d]]], (.one false [.d])⟩
noncomputable def E_leqEdgeS : TEnv := envOf [(288, p_leqEdge)]
noncomputable def f_leqEdgeS (n : Nat) : (List (Int × Int)) × (List (Int × Int)) → Option ((Bool) × Unit) := runFn n E_leqEdgeS c_leqEdgeS [[.sl [.i .i64, .i .i64]], [.sl [.i .i64, .i .i64]]] [.b] [] [4] .no
noncomputable def g_leqEdgeS := f_leqEdgeS BIG
noncomputable def p_leqEdgeS : TSp := ⟨s_leqEdgeS, [[.sl [.i .i64, .i .i64]], [.sl [.i .i64, .i .i64]]], [.b], [], Ou.j .no, g_leqEdgeS⟩
theorem k_leqEdgeS : chkW PG E_leqEdgeS 181 s_leqEdgeS (c_leqEdgeS.ht 27) .no = some (c_leqEdgeS.wc E_leqEdgeS, [4]) := by kernel_rfl
theorem ok_leqEdgeS : p_leqEdgeS.Ok PG 181 := mkOk (env_cons ok_leqEdge (env_nil PG)) k_leqEdgeS (by kernel_rfl)
theorem e_leqEdgeS (n : Nat) (a0 : List (Int × Int)) (a1 : List (Int × Int)) : f_leqEdgeS n (a0, a1) =
  bif !decide ((a0.length : Int) = (a1.length : Int)) then
   some (false, ())
  else Option.bind (loopT n (X := Int) (B := (Unit) ⊕ (Bool)) (fun self1 x0 =>
    bif decide (x0 < (a0.length : Int)) then
     bnd a0.length x0 fun n2 =>
     Option.bind a0[n2]? fun y3 =>
     bnd a1.length x0 fun n4 =>
     Option.bind a1[n4]? fun y5 =>
     Option.bind (g_leqEdge (y3, y5)) fun r6 =>
     bif !r6.1 then
      some (Sum.inr false)
     else self1 (IntKind.wrap .i64 (x0 + (1 : Int)))
    else some (Sum.inl ())) (0 : Int) : Option ((Unit) ⊕ (Bool))) fun y => match y with
  | .inl x7 =>
   some (true, ())
  | .inr x7 =>
   some (x7, ()) := by kernel_rfl
def c_leqIntS : TC :=
 (.seq (.rg [o1 4 (.lit [.b] [.bool false])])
 (.seq (.seq (.rg [o1 6 (.copy 0),
   o1 7 (.len 6),
   o1 8 (.copy 1),
   o1 9 (.len 8),
   o1 10 (.data (.bin .neq) [.t 7, .t 9])])
 (.cond (.t 10)
  (.seq (.rg [o1 4 (.lit [.b] [.bool false])])
  .ret)
  .skip))
 (.seq (.join [] 67106864 (some [⟨4, [.b], false⟩]) (.seq (.rg [o1 5 (.lit [.i .i64] [.int .i64 (0)])])
 (.block 0 (.loop [⟨5, [.i .i64], false⟩] 67106864
  (.seq (.seq (.rg [o1 11 (.copy 5),
    o1 12 (.copy 0),
    o1 13 (.len 12),
    o1 14 (.data (.bin .lss) [.t 11, .t 13])])
  (.cond (.t 14)
   .skip
   (.exit 0)))
  (.seq (.block 1 (.seq (.rg [o1 17 (.copy 0),
    o1 18 (.copy 5),
    o1 19 (.index 17 (.t 18)),
    o1 20 (.load 17 [(0, 1)] 0 (.t 19) 1 false),
    o1 21 (.copy 1),
    o1 22 (.copy 5),
    o1 23 (.index 21 (.t 22)),
    o1 24 (.load 21 [(0, 1)] 0 (.t 23) 1 false),
    o1 25 (.data (.bin .neq) [.t 20, .t 24])])
  (.cond (.t 25)
   (.seq (.rg [o1 4 (.lit [.b] [.bool false])])
   .ret)
   .skip)))
  (.rg [o1 15 (.copy 5),
    o1 16 (.data (.bin .add) [.t 15, .c (.int .i64 (1))]),
    o1 5 (.copy 16)])))))))
 (.seq (.rg [o1 4 (.lit [.b] [.bool true])])
 .ret))))
def s_leqIntS : Sig := ⟨[.rd false [.sl (.own none) [.d]], .rd false [.sl (.own none) [.d]]], (.one false [.d])⟩
noncomputable def E_leqIntS : TEnv := envOf []
noncomputable def f_leqIntS (n : Nat) : List (Int) × List (Int) → Option ((Bool) × Unit) := runFn n E_leqIntS c_leqIntS [[.sl [.i .i64]], [.sl [.i .i64]]] [.b] [] [4] .no
noncomputable def g_leqIntS := f_leqIntS BIG
noncomputable def p_leqIntS : TSp := ⟨s_leqIntS, [[.sl [.i .i64]], [.sl [.i .i64]]], [.b], [], Ou.j .no, g_leqIntS⟩
theorem k_leqIntS : chkW PG E_leqIntS 180 s_leqIntS (c_leqIntS.ht 26) .no = some (c_leqIntS.wc E_leqIntS, [4]) := by kernel_rfl
theorem ok_leqIntS : p_leqIntS.Ok PG 180 := mkOk (env_nil PG) k_leqIntS (by kernel_rfl)
theorem e_leqIntS (n : Nat) (a0 : List (Int)) (a1 : List (Int)) : f_leqIntS n (a0, a1) =
  bif !decide ((a0.length : Int) = (a1.length : Int)) then
   some (false, ())
  else Option.bind (loopT n (X := Int) (B := (Unit) ⊕ (Bool)) (fun self1 x0 =>
    bif decide (x0 < (a0.length : Int)) then
     bnd a0.length x0 fun n2 =>
     Option.bind a0[n2]? fun y3 =>
     bnd a1.length x0 fun n4 =>
     Option.bind a1[n4]? fun y5 =>
     bif !decide (y3 = y5) then
      some (Sum.inr false)
     else self1 (IntKind.wrap .i64 (x0 + (1 : Int)))
    else some (Sum.inl ())) (0 : Int) : Option ((Unit) ⊕ (Bool))) fun y => match y with
  | .inl x6 =>
   some (true, ())
  | .inr x6 =>
   some (x6, ()) := by kernel_rfl
def c_leqAnswer : TC :=
 (.seq (.rg [o1 2 (.a (.t 0)),
   o1 3 (.a (.t 1)),
   o1 4 (.lit [.b] [.bool false])])
 (.seq (.seq (.rg [o1 5 (.idx .nil),
   o1 6 (.load 2 [] 0 (.t 5) 1 false),
   o1 7 (.idx .nil),
   o1 8 (.load 3 [] 0 (.t 7) 1 false),
   o1 9 (.data (.bin .neq) [.t 6, .t 8])])
 (.cond (.t 9)
  (.seq (.rg [o1 4 (.lit [.b] [.bool false])])
  .ret)
  .skip))
 (.seq (.seq (.rg [o1 10 (.idx .nil),
   o1 11 (.load 2 [] 1 (.t 10) 1 false),
   o1 12 (.idx .nil),
   o1 13 (.load 3 [] 1 (.t 12) 1 false),
   o1 14 (.data (.beq true) [.t 11, .t 13])])
 (.cond (.t 14)
  (.seq (.rg [o1 4 (.lit [.b] [.bool false])])
  .ret)
  .skip))
 (.seq (.seq (.rg [o1 15 (.idx .nil),
   o1 16 (.load 2 [] 2 (.t 15) 1 false),
   o1 17 (.idx .nil),
   o1 18 (.load 3 [] 2 (.t 17) 1 false),
   o3 19 181 [.t 16, .t 18],
   o1 20 (.data .not [.t 19])])
 (.cond (.t 20)
  (.seq (.rg [o1 4 (.lit [.b] [.bool false])])
  .ret)
  .skip))
 (.seq (.seq (.rg [o1 21 (.idx .nil),
   o1 22 (.load 2 [] 3 (.t 21) 1 false),
   o1 23 (.idx .nil),
   o1 24 (.load 3 [] 3 (.t 23) 1 false),
   o3 25 180 [.t 22, .t 24],
   o1 26 (.data .not [.t 25])])
 (.cond (.t 26)
  (.seq (.rg [o1 4 (.lit [.b] [.bool false])])
  .ret)
  .skip))
 (.seq (.rg [o1 4 (.lit [.b] [.bool true])])
 .ret))))))
def s_leqAnswer : Sig := ⟨[.rd true [.d, .d, .sl (.own none) [.d, .d], .sl (.own none) [.d]], .rd true [.d, .d, .sl (.own none) [.d, .d], .sl (.own none) [.d]]], (.one false [.d])⟩
noncomputable def E_leqAnswer : TEnv := envOf [(181, p_leqEdgeS), (180, p_leqIntS)]
noncomputable def f_leqAnswer (n : Nat) : (Int × Bool × List (Int × Int) × List (Int)) × (Int × Bool × List (Int × Int) × List (Int)) → Option ((Bool) × Unit) := runFn n E_leqAnswer c_leqAnswer [[.i .i64, .b, .sl [.i .i64, .i .i64], .sl [.i .i64]], [.i .i64, .b, .sl [.i .i64, .i .i64], .sl [.i .i64]]] [.b] [] [4] .no
noncomputable def g_leqAnswer := f_leqAnswer BIG
noncomputable def p_leqAnswer : TSp := ⟨s_leqAnswer, [[.i .i64, .b, .sl [.i .i64, .i .i64], .sl [.i .i64]], [.i .i64, .b, .sl [.i .i64, .i .i64], .sl [.i .i64]]], [.b], [], Ou.j .no, g_leqAnswer⟩
theorem k_leqAnswer : chkW PG E_leqAnswer 75 s_leqAnswer (c_leqAnswer.ht 27) .no = some (c_leqAnswer.wc E_leqAnswer, [4]) := by kernel_rfl
theorem ok_leqAnswer : p_leqAnswer.Ok PG 75 := mkOk (env_cons ok_leqEdgeS (env_cons ok_leqIntS (env_nil PG))) k_leqAnswer (by kernel_rfl)
theorem e_leqAnswer (n : Nat) (a0 : Int × Bool × List (Int × Int) × List (Int)) (a1 : Int × Bool × List (Int × Int) × List (Int)) : f_leqAnswer n (a0, a1) =
  bif !decide (a0.1 = a1.1) then
   some (false, ())
  else bif !(a0.2.1 == a1.2.1) then
   some (false, ())
  else Option.bind (g_leqEdgeS (a0.2.2.1, a1.2.2.1)) fun r0 =>
  bif !r0.1 then
   some (false, ())
  else Option.bind (g_leqIntS (a0.2.2.2, a1.2.2.2)) fun r1 =>
  bif !r1.1 then
   some (false, ())
  else some (true, ()) := by kernel_rfl
def c_leqOrder : TC :=
 (.seq (.rg [o1 2 (.a (.t 0)),
   o1 3 (.a (.t 1)),
   o1 4 (.lit [.b] [.bool false])])
 (.seq (.seq (.rg [o1 5 (.idx .nil),
   o1 6 (.load 2 [] 0 (.t 5) 1 false),
   o1 7 (.idx .nil),
   o1 8 (.load 3 [] 0 (.t 7) 1 false),
   o1 9 (.data (.bin .neq) [.t 6, .t 8])])
 (.cond (.t 9)
  (.seq (.rg [o1 4 (.lit [.b] [.bool false])])
  .ret)
  .skip))
 (.seq (.seq (.rg [o1 10 (.idx .nil),
   o1 11 (.load 2 [] 1 (.t 10) 1 false),
   o1 12 (.idx .nil),
   o1 13 (.load 3 [] 1 (.t 12) 1 false),
   o1 14 (.data (.bin .neq) [.t 11, .t 13])])
 (.cond (.t 14)
  (.seq (.rg [o1 4 (.lit [.b] [.bool false])])
  .ret)
  .skip))
 (.seq (.seq (.rg [o1 15 (.idx .nil),
   o1 16 (.load 2 [] 2 (.t 15) 1 false),
   o1 17 (.idx .nil),
   o1 18 (.load 3 [] 2 (.t 17) 1 false),
   o3 19 181 [.t 16, .t 18],
   o1 20 (.data .not [.t 19])])
 (.cond (.t 20)
  (.seq (.rg [o1 4 (.lit [.b] [.bool false])])
  .ret)
  .skip))
 (.seq (.seq (.rg [o1 21 (.idx .nil),
   o1 22 (.load 2 [] 3 (.t 21) 1 false),
   o1 23 (.idx .nil),
   o1 24 (.load 3 [] 3 (.t 23) 1 false),
   o1 25 (.data (.bin .neq) [.t 22, .t 24])])
 (.cond (.t 25)
  (.seq (.rg [o1 4 (.lit [.b] [.bool false])])
  .ret)
  .skip))
 (.seq (.rg [o1 4 (.lit [.b] [.bool true])])
 .ret))))))
def s_leqOrder : Sig := ⟨[.rd true [.d, .d, .sl (.own none) [.d, .d], .d], .rd true [.d, .d, .sl (.own none) [.d, .d], .d]], (.one false [.d])⟩
noncomputable def E_leqOrder : TEnv := envOf [(181, p_leqEdgeS)]
noncomputable def f_leqOrder (n : Nat) : (Int × Int × List (Int × Int) × Int) × (Int × Int × List (Int × Int) × Int) → Option ((Bool) × Unit) := runFn n E_leqOrder c_leqOrder [[.i .i64, .i .i64, .sl [.i .i64, .i .i64], .i .i64], [.i .i64, .i .i64, .sl [.i .i64, .i .i64], .i .i64]] [.b] [] [4] .no
noncomputable def g_leqOrder := f_leqOrder BIG
noncomputable def p_leqOrder : TSp := ⟨s_leqOrder, [[.i .i64, .i .i64, .sl [.i .i64, .i .i64], .i .i64], [.i .i64, .i .i64, .sl [.i .i64, .i .i64], .i .i64]], [.b], [], Ou.j .no, g_leqOrder⟩
theorem k_leqOrder : chkW PG E_leqOrder 275 s_leqOrder (c_leqOrder.ht 26) .no = some (c_leqOrder.wc E_leqOrder, [4]) := by kernel_rfl
theorem ok_leqOrder : p_leqOrder.Ok PG 275 := mkOk (env_cons ok_leqEdgeS (env_nil PG)) k_leqOrder (by kernel_rfl)
theorem e_leqOrder (n : Nat) (a0 : Int × Int × List (Int × Int) × Int) (a1 : Int × Int × List (Int × Int) × Int) : f_leqOrder n (a0, a1) =
  bif !decide (a0.1 = a1.1) then
   some (false, ())
  else bif !decide (a0.2.1 = a1.2.1) then
   some (false, ())
  else Option.bind (g_leqEdgeS (a0.2.2.1, a1.2.2.1)) fun r0 =>
  bif !r0.1 then
   some (false, ())
  else bif !decide (a0.2.2.2 = a1.2.2.2) then
   some (false, ())
  else some (true, ()) := by kernel_rfl
def c_leqRec : TC :=
 (.seq (.rg [o1 2 (.a (.t 0)),
   o1 3 (.a (.t 1)),
   o1 4 (.lit [.b] [.bool false])])
 (.seq (.seq (.rg [o1 5 (.idx .nil),
   o1 6 (.load 2 [] 0 (.t 5) 1 false),
   o1 7 (.idx .nil),
   o1 8 (.load 3 [] 0 (.t 7) 1 false),
   o1 9 (.data (.bin .neq) [.t 6, .t 8])])
 (.cond (.t 9)
  (.seq (.rg [o1 4 (.lit [.b] [.bool false])])
  .ret)
  .skip))
 (.seq (.seq (.rg [o1 10 (.idx .nil),
   o1 11 (.load 2 [] 1 (.t 10) 4 false),
   o1 12 (.idx .nil),
   o1 13 (.load 3 [] 1 (.t 12) 4 false),
   o3 14 274 [.t 11, .t 13],
   o1 15 (.data .not [.t 14])])
 (.cond (.t 15)
  (.seq (.rg [o1 4 (.lit [.b] [.bool false])])
  .ret)
  .skip))
 (.seq (.seq (.rg [o1 16 (.idx .nil),
   o1 17 (.load 2 [] 5 (.t 16) 1 false),
   o1 18 (.idx .nil),
   o1 19 (.load 3 [] 5 (.t 18) 1 false),
   o1 20 (.data (.bin .neq) [.t 17, .t 19])])
 (.cond (.t 20)
  (.seq (.rg [o1 4 (.lit [.b] [.bool false])])
  .ret)
  .skip))
 (.seq (.seq (.rg [o1 21 (.idx .nil),
   o1 22 (.load 2 [] 6 (.t 21) 4 false),
   o1 23 (.idx .nil),
   o1 24 (.load 3 [] 6 (.t 23) 4 false),
   o3 25 75 [.t 22, .t 24],
   o1 26 (.data .not [.t 25])])
 (.cond (.t 26)
  (.seq (.rg [o1 4 (.lit [.b] [.bool false])])
  .ret)
  .skip))
 (.seq (.seq (.rg [o1 27 (.idx .nil),
   o1 28 (.load 2 [] 10 (.t 27) 4 false),
   o1 29 (.idx .nil),
   o1 30 (.load 3 [] 10 (.t 29) 4 false),
   o3 31 275 [.t 28, .t 30],
   o1 32 (.data .not [.t 31])])
 (.cond (.t 32)
  (.seq (.rg [o1 4 (.lit [.b] [.bool false])])
  .ret)
  .skip))
 (.seq (.rg [o1 4 (.lit [.b] [.bool true])])
 .ret)))))))
def s_leqRec : Sig := ⟨[.rd true [.d, .d, .d, .d, .d, .d, .d, .d, .sl (.own none) [.d, .d], .sl (.own none) [.d], .d, .d, .sl (.own none) [.d, .d], .d], .rd true [.d, .d, .d, .d, .d, .d, .d, .d, .sl (.own none) [.d, .d], .sl (.own none) [.d], .d, .d, .sl (.own none) [.d, .d], .d]], (.one false [.d])⟩
noncomputable def E_leqRec : TEnv := envOf [(274, p_leqAsk), (75, p_leqAnswer), (275, p_leqOrder)]
noncomputable def f_leqRec (n : Nat) : (Int × Int × Int × Int × Int × Int × Int × Bool × List (Int × Int) × List (Int) × Int × Int × List (Int × Int) × Int) × (Int × Int × Int × Int × Int × Int × Int × Bool × List (Int × Int) × List (Int) × Int × Int × List (Int × Int) × Int) → Option ((Bool) × Unit) := runFn n E_leqRec c_leqRec [[.i .i64, .i .i64, .i .i64, .i .i64, .i .i64, .i .i64, .i .i64, .b, .sl [.i .i64, .i .i64], .sl [.i .i64], .i .i64, .i .i64, .sl [.i .i64, .i .i64], .i .i64], [.i .i64, .i .i64, .i .i64, .i .i64, .i .i64, .i .i64, .i .i64, .b, .sl [.i .i64, .i .i64], .sl [.i .i64], .i .i64, .i .i64, .sl [.i .i64, .i .i64], .i .i64]] [.b] [] [4] .no
noncomputable def g_leqRec := f_leqRec BIG
noncomputable def p_leqRec : TSp := ⟨s_leqRec, [[.i .i64, .i .i64, .i .i64, .i .i64, .i .i64, .i .i64, .i .i64, .b, .sl [.i .i64, .i .i64], .sl [.i .i64], .i .i64, .i .i64, .sl [.i .i64, .i .i64], .i .i64], [.i .i64, .i .i64, .i .i64, .i .i64, .i .i64, .i .i64, .i .i64, .b, .sl [.i .i64, .i .i64], .sl [.i .i64], .i .i64, .i .i64, .sl [.i .i64, .i .i64], .i .i64]], [.b], [], Ou.j .no, g_leqRec⟩
theorem k_leqRec : chkW PG E_leqRec 145 s_leqRec (c_leqRec.ht 33) .no = some (c_leqRec.wc E_leqRec, [4]) := by kernel_rfl
theorem ok_leqRec : p_leqRec.Ok PG 145 := mkOk (env_cons ok_leqAsk (env_cons ok_leqAnswer (env_cons ok_leqOrder (env_nil PG)))) k_leqRec (by kernel_rfl)
theorem e_leqRec (n : Nat) (a0 : Int × Int × Int × Int × Int × Int × Int × Bool × List (Int × Int) × List (Int) × Int × Int × List (Int × Int) × Int) (a1 : Int × Int × Int × Int × Int × Int × Int × Bool × List (Int × Int) × List (Int) × Int × Int × List (Int × Int) × Int) : f_leqRec n (a0, a1) =
  bif !decide (a0.1 = a1.1) then
   some (false, ())
  else Option.bind (g_leqAsk ((a0.2.1, a0.2.2.1, a0.2.2.2.1, a0.2.2.2.2.1), (a1.2.1, a1.2.2.1, a1.2.2.2.1, a1.2.2.2.2.1))) fun r0 =>
  bif !r0.1 then
   some (false, ())
  else bif !decide (a0.2.2.2.2.2.1 = a1.2.2.2.2.2.1) then
   some (false, ())
  else Option.bind (g_leqAnswer ((a0.2.2.2.2.2.2.1, a0.2.2.2.2.2.2.2.1, a0.2.2.2.2.2.2.2.2.1, a0.2.2.2.2.2.2.2.2.2.1), (a1.2.2.2.2.2.2.1, a1.2.2.2.2.2.2.2.1, a1.2.2.2.2.2.2.2.2.1, a1.2.2.2.2.2.2.2.2.2.1))) fun r1 =>
  bif !r1.1 then
   some (false, ())
  else Option.bind (g_leqOrder (a0.2.2.2.2.2.2.2.2.2.2, a1.2.2.2.2.2.2.2.2.2.2)) fun r2 =>
  bif !r2.1 then
   some (false, ())
  else some (true, ()) := by kernel_rfl
def c_leqRecS : TC :=
 (.seq (.rg [o1 4 (.lit [.b] [.bool false])])
 (.seq (.seq (.rg [o1 6 (.copy 0),
   o1 7 (.len 6),
   o1 8 (.copy 1),
   o1 9 (.len 8),
   o1 10 (.data (.bin .neq) [.t 7, .t 9])])
 (.cond (.t 10)
  (.seq (.rg [o1 4 (.lit [.b] [.bool false])])
  .ret)
  .skip))
 (.seq (.join [] 134215728 (some [⟨4, [.b], false⟩]) (.seq (.rg [o1 5 (.lit [.i .i64] [.int .i64 (0)])])
 (.block 0 (.loop [⟨5, [.i .i64], false⟩] 134215728
  (.seq (.seq (.rg [o1 11 (.copy 5),
    o1 12 (.copy 0),
    o1 13 (.len 12),
    o1 14 (.data (.bin .lss) [.t 11, .t 13])])
  (.cond (.t 14)
   .skip
   (.exit 0)))
  (.seq (.block 1 (.seq (.rg [o1 17 (.copy 0),
    o1 18 (.copy 5),
    o1 19 (.index 17 (.t 18)),
    o1 20 (.load 17 [(0, 14)] 0 (.t 19) 14 false),
    o1 21 (.copy 1),
    o1 22 (.copy 5),
    o1 23 (.index 21 (.t 22)),
    o1 24 (.load 21 [(0, 14)] 0 (.t 23) 14 false),
    o3 25 145 [.t 20, .t 24],
    o1 26 (.data .not [.t 25])])
  (.cond (.t 26)
   (.seq (.rg [o1 4 (.lit [.b] [.bool false])])
   .ret)
   .skip)))
  (.rg [o1 15 (.copy 5),
    o1 16 (.data (.bin .add) [.t 15, .c (.int .i64 (1))]),
    o1 5 (.copy 16)])))))))
 (.seq (.rg [o1 4 (.lit [.b] [.bool true])])
 .ret))))
def s_leqRecS : Sig := ⟨[.rd false [.sl (.own none) [.d, .d, .d, .d, .d, .d, .d, .d, .sl (.own none) [.d, .d], .sl (.own none) [.d], .d, .d, .sl (.own none) [.d, .d], .d]], .rd false [.sl (.own none) [.d, .d, .d, .d, .d, .d, .d, .d, .sl (.own none) [.d, .d], .sl (.own none) [.d], .d, .d, .sl (.own none) [.d, .d], .d]]], (.one false [.d])⟩
noncomputable def E_leqRecS : TEnv := envOf [(145, p_leqRec)]
noncomputable def f_leqRecS (n : Nat) : (List (Int × Int × Int × Int × Int × Int × Int × Bool × List (Int × Int) × List (Int) × Int × Int × List (Int × Int) × Int)) × (List (Int × Int × Int × Int × Int × Int × Int × Bool × List (Int × Int) × List (Int) × Int × Int × List (Int × Int) × Int)) → Option ((Bool) × Unit) := runFn n E_leqRecS c_leqRecS [[.sl [.i .i64, .i .i64, .i .i64, .i .i64, .i .i64, .i .i64, .i .i64, .b, .sl [.i .i64, .i .i64], .sl [.i .i64], .i .i64, .i .i64, .sl [.i .i64, .i .i64], .i .i64]], [.sl [.i .i64, .i .i64, .i .i64, .i .i64, .i .i64, .i .i64, .i .i64, .b, .sl [.i .i64, .i .i64], .sl [.i .i64], .i .i64, .i .i64, .sl [.i .i64, .i .i64], .i .i64]]] [.b] [] [4] .no
noncomputable def g_leqRecS := f_leqRecS BIG
noncomputable def p_leqRecS : TSp := ⟨s_leqRecS, [[.sl [.i .i64, .i .i64, .i .i64, .i .i64, .i .i64, .i .i64, .i .i64, .b, .sl [.i .i64, .i .i64], .sl [.i .i64], .i .i64, .i .i64, .sl [.i .i64, .i .i64], .i .i64]], [.sl [.i .i64, .i .i64, .i .i64, .i .i64, .i .i64, .i .i64, .i .i64, .b, .sl [.i .i64, .i .i64], .sl [.i .i64], .i .i64, .i .i64, .sl [.i .i64, .i .i64], .i .i64]]], [.b], [], Ou.j .no, g_leqRecS⟩
theorem k_leqRecS : chkW PG E_leqRecS 56 s_leqRecS (c_leqRecS.ht 27) .no = some (c_leqRecS.wc E_leqRecS, [4]) := by kernel_rfl
theorem ok_leqRecS : p_leqRecS.Ok PG 56 := mkOk (env_cons ok_leqRec (env_nil PG)) k_leqRecS (by kernel_rfl)
theorem e_leqRecS (n : Nat) (a0 : List (Int × Int × Int × Int × Int × Int × Int × Bool × (List (Int × Int)) × (List (Int)) × Int × Int × (List (Int × Int)) × Int)) (a1 : List (Int × Int × Int × Int × Int × Int × Int × Bool × (List (Int × Int)) × (List (Int)) × Int × Int × (List (Int × Int)) × Int)) : f_leqRecS n (a0, a1) =
  bif !decide ((a0.length : Int) = (a1.length : Int)) then
   some (false, ())
  else Option.bind (loopT n (X := Int) (B := (Unit) ⊕ (Bool)) (fun self1 x0 =>
    bif decide (x0 < (a0.length : Int)) then
     bnd a0.length x0 fun n2 =>
     Option.bind a0[n2]? fun y3 =>
     bnd a1.length x0 fun n4 =>
     Option.bind a1[n4]? fun y5 =>
     Option.bind (g_leqRec (y3, y5)) fun r6 =>
     bif !r6.1 then
      some (Sum.inr false)
     else self1 (IntKind.wrap .i64 (x0 + (1 : Int)))
    else some (Sum.inl ())) (0 : Int) : Option ((Unit) ⊕ (Bool))) fun y => match y with
  | .inl x7 =>
   some (true, ())
  | .inr x7 =>
   some (x7, ()) := by kernel_rfl
def c_lmarkEdgeS : TC :=
 (.seq (.rg [o1 4 (.lit [.i .i64] [.int .i64 (0)])])
 (.seq (.join [⟨0, [.sl [.i .i64, .i .i64]], false⟩, ⟨1, [.i .i64], false⟩] 67108835 none (.seq (.rg [o1 5 (.lit [.i .i64] [.int .i64 (0)])])
 (.block 0 (.loop [⟨0, [.sl [.i .i64, .i .i64]], false⟩, ⟨1, [.i .i64], false⟩, ⟨5, [.i .i64], false⟩] 67108835
  (.seq (.seq (.rg [o1 6 (.copy 5),
    ⟨true, [], [], .det 1 (.copy 0), [7], (some 7), none⟩,
    o1 8 (.len 7),
    o1 9 (.data (.bin .lss) [.t 6, .t 8])])
  (.cond (.t 9)
   .skip
   (.exit 0)))
  (.seq (.block 1 (.seq (.rg [⟨true, [], [], .det 1 (.copy 0), [12], (some 12), none⟩,
    o1 13 (.copy 5),
    o1 14 (.copy 1),
    o1 15 (.index 12 (.t 13)),
    o1 16 (.idx (.t 15)),
    o4 1 [0, 7, 12] (.store 0 [(0, 2)] 0 (.t 16) (.t 14))])
  (.seq (.rg [o1 17 (.copy 1),
    o1 18 (.data (.bin .add) [.t 17, .c (.int .i64 (1))]),
    o1 1 (.copy 18)])
  (.seq (.rg [⟨true, [], [], .det 1 (.copy 0), [19], (some 19), none⟩,
    o1 20 (.copy 5),
    o1 21 (.copy 1),
    o1 22 (.index 19 (.t 20)),
    o1 23 (.idx (.t 22)),
    o4 1 [0, 19] (.store 0 [(0, 2)] 1 (.t 23) (.t 21))])
  (.rg [o1 24 (.copy 1),
    o1 25 (.data (.bin .add) [.t 24, .c (.int .i64 (1))]),
    o1 1 (.copy 25)])))))
  (.rg [o1 10 (.copy 5),
    o1 11 (.data (.bin .add) [.t 10, .c (.int .i64 (1))]),
    o1 5 (.copy 11)])))))))
 (.seq (.rg [o1 26 (.copy 1),
   o1 4 (.copy 26)])
 .ret)))
def s_lmarkEdgeS : Sig := ⟨[.mt false [.sl (.own none) [.d, .d]], .rd false [.d]], (.one false [.d])⟩
noncomputable def E_lmarkEdgeS : TEnv := envOf []
noncomputable def f_lmarkEdgeS (n : Nat) : (List (Int × Int)) × Int → Option ((Int) × List (Int × Int)) := runFn n E_lmarkEdgeS c_lmarkEdgeS [[.sl [.i .i64, .i .i64]], [.i .i64]] [.i .i64] [.sl [.i .i64, .i .i64]] [4] (.mt 0 0 0)
noncomputable def g_lmarkEdgeS := f_lmarkEdgeS BIG
noncomputable def p_lmarkEdgeS : TSp := ⟨s_lmarkEdgeS, [[.sl [.i .i64, .i .i64]], [.i .i64]], [.i .i64], [.sl [.i .i64, .i .i64]], Ou.j (.mt 0 0 0), g_lmarkEdgeS⟩
theorem k_lmarkEdgeS : chkW PG E_lmarkEdgeS 146 s_lmarkEdgeS (c_lmarkEdgeS.ht 27) (.mt 0 0 0) = some (c_lmarkEdgeS.wc E_lmarkEdgeS, [4]) := by kernel_rfl
theorem ok_lmarkEdgeS : p_lmarkEdgeS.Ok PG 146 := mkOk (env_nil PG) k_lmarkEdgeS (by kernel_rfl)
theorem e_lmarkEdgeS (n : Nat) (a0 : List (Int × Int)) (a1 : Int) : f_lmarkEdgeS n (a0, a1) =
  Option.bind (loopT n (X := (List (Int × Int)) × Int × Int) (B := (List (Int × Int)) × Int) (fun self1 x0 =>
    bif decide (x0.2.2 < (x0.1.length : Int)) then
     bnd x0.1.length x0.2.2 fun n2 =>
     Option.bind x0.1[n2]? fun y3 =>
     bnd (x0.1.set n2 (x0.2.1, y3.2)).length x0.2.2 fun n4 =>
     Option.bind (x0.1.set n2 (x0.2.1, y3.2))[n4]? fun y5 =>
     self1 ((x0.1.set n2 (x0.2.1, y3.2)).set n4 (y5.1, IntKind.wrap .i64 (x0.2.1 + (1 : Int))), IntKind.wrap .i64 ((IntKind.wrap .i64 (x0.2.1 + (1 : Int))) + (1 : Int)), IntKind.wrap .i64 (x0.2.2 + (1 : Int)))
    else some (x0.1, x0.2.1)) (a0, a1, (0 : Int)) : Option ((List (Int × Int)) × Int)) fun x6 =>
  some (x6.2, x6.1) := by kernel_rfl
def c_lmarkIntS : TC :=
 (.seq (.rg [o1 4 (.lit [.i .i64] [.int .i64 (0)])])
 (.seq (.join [⟨0, [.sl [.i .i64]], false⟩, ⟨1, [.i .i64], false⟩] 262115 none (.seq (.rg [o1 5 (.lit [.i .i64] [.int .i64 (0)])])
 (.block 0 (.loop [⟨0, [.sl [.i .i64]], false⟩, ⟨1, [.i .i64], false⟩, ⟨5, [.i .i64], false⟩] 262115
  (.seq (.seq (.rg [o1 6 (.copy 5),
    ⟨true, [], [], .det 1 (.copy 0), [7], (some 7), none⟩,
    o1 8 (.len 7),
    o1 9 (.data (.bin .lss) [.t 6, .t 8])])
  (.cond (.t 9)
   .skip
   (.exit 0)))
  (.seq (.block 1 (.seq (.rg [⟨true, [], [], .det 1 (.copy 0), [12], (some 12), none⟩,
    o1 13 (.copy 5),
    o1 14 (.copy 1),
    o1 15 (.index 12 (.t 13)),
    o4 1 [0, 7, 12] (.store 0 [(0, 1)] 0 (.t 15) (.t 14))])
  (.rg [o1 16 (.copy 1),
    o1 17 (.data (.bin .add) [.t 16, .c (.int .i64 (1))]),
    o1 1 (.copy 17)])))
  (.rg [o1 10 (.copy 5),
    o1 11 (.data (.bin .add) [.t 10, .c (.int .i64 (1))]),
    o1 5 (.copy 11)])))))))
 (.seq (.rg [o1 18 (.copy 1),
   o1 4 (.copy 18)])
 .ret)))
def s_lmarkIntS : Sig := ⟨[.mt false [.sl (.own none) [.d]], .rd false [.d]], (.one false [.d])⟩
noncomputable def E_lmarkIntS : TEnv := envOf []
noncomputable def f_lmarkIntS (n : Nat) : List (Int) × Int → Option ((Int) × List (Int)) := runFn n E_lmarkIntS c_lmarkIntS [[.sl [.i .i64]], [.i .i64]] [.i .i64] [.sl [.i .i64]] [4] (.mt 0 0 0)
noncomputable def g_lmarkIntS := f_lmarkIntS BIG
noncomputable def p_lmarkIntS : TSp := ⟨s_lmarkIntS, [[.sl [.i .i64]], [.i .i64]], [.i .i64], [.sl [.i .i64]], Ou.j (.mt 0 0 0), g_lmarkIntS⟩
theorem k_lmarkIntS : chkW PG E_lmarkIntS 147 s_lmarkIntS (c_lmarkIntS.ht 19) (.mt 0 0 0) = some (c_lmarkIntS.wc E_lmarkIntS, [4]) := by kernel_rfl
theorem ok_lmarkIntS : p_lmarkIntS.Ok PG 147 := mkOk (env_nil PG) k_lmarkIntS (by kernel_rfl)
theorem e_lmarkIntS (n : Nat) (a0 : List (Int)) (a1 : Int) : f_lmarkIntS n (a0, a1) =
  Option.bind (loopT n (X := (List (Int)) × Int × Int) (B := (List (Int)) × Int) (fun self1 x0 =>
    bif decide (x0.2.2 < (x0.1.length : Int)) then
     bnd x0.1.length x0.2.2 fun n2 =>
     Option.bind x0.1[n2]? fun y3 =>
     self1 (x0.1.set n2 x0.2.1, IntKind.wrap .i64 (x0.2.1 + (1 : Int)), IntKind.wrap .i64 (x0.2.2 + (1 : Int)))
    else some (x0.1, x0.2.1)) (a0, a1, (0 : Int)) : Option ((List (Int)) × Int)) fun x4 =>
  some (x4.2, x4.1) := by kernel_rfl
def c_lmarkRecS : TC :=
 (.seq (.rg [o1 4 (.lit [.i .i64] [.int .i64 (0)])])
 (.seq (.join [⟨0, [.sl [.i .i64, .i .i64, .i .i64, .i .i64, .i .i64, .i .i64, .i .i64, .b, .sl [.i .i64, .i .i64], .sl [.i .i64], .i .i64, .i .i64, .sl [.i .i64, .i .i64], .i .i64]], false⟩, ⟨1, [.i .i64], false⟩] 21267647932558653966460912964485513187 none (.seq (.rg [o1 5 (.lit [.i .i64] [.int .i64 (0)])])
 (.block 0 (.loop [⟨0, [.sl [.i .i64, .i .i64, .i .i64, .i .i64, .i .i64, .i .i64, .i .i64, .b, .sl [.i .i64, .i .i64], .sl [.i .i64], .i .i64, .i .i64, .sl [.i .i64, .i .i64], .i .i64]], false⟩, ⟨1, [.i .i64], false⟩, ⟨5, [.i .i64], false⟩] 21267647932558653966460912964485513187
  (.seq (.seq (.rg [o1 6 (.copy 5),
    ⟨true, [], [], .det 1 (.copy 0), [7], (some 7), none⟩,
    o1 8 (.len 7),
    o1 9 (.data (.bin .lss) [.t 6, .t 8])])
  (.cond (.t 9)
   .skip
   (.exit 0)))
  (.seq (.block 1 (.seq (.rg [⟨true, [], [], .det 1 (.copy 0), [12], (some 12), none⟩,
    o1 13 (.copy 5),
    o1 14 (.copy 1),
    o1 15 (.index 12 (.t 13)),
    o1 16 (.idx (.t 15)),
    o4 1 [0, 7, 12] (.store 0 [(0, 14)] 0 (.t 16) (.t 14))])
  (.seq (.rg [o1 17 (.copy 1),
    o1 18 (.data (.bin .add) [.t 17, .c (.int .i64 (1))]),
    o1 1 (.copy 18)])
  (.seq (.rg [⟨true, [], [], .det 1 (.copy 0), [19], (some 19), none⟩,
    o1 20 (.copy 5),
    o1 21 (.copy 1),
    o1 22 (.index 19 (.t 20)),
    o1 23 (.idx (.t 22)),
    o1 24 (.idx (.t 23)),
    o4 1 [0, 19] (.store 0 [(0, 14)] 1 (.t 24) (.t 21))])
  (.seq (.rg [o1 25 (.copy 1),
    o1 26 (.data (.bin .add) [.t 25, .c (.int .i64 (1))]),
    o1 1 (.copy 26)])
  (.seq (.rg [⟨true, [], [], .det 1 (.copy 0), [27], (some 27), none⟩,
    o1 28 (.copy 5),
    o1 29 (.copy 1),
    o1 30 (.index 27 (.t 28)),
    o1 31 (.idx (.t 30)),
    o1 32 (.idx (.t 31)),
    o4 1 [0, 27] (.store 0 [(0, 14)] 2 (.t 32) (.t 29))])
  (.seq (.rg [o1 33 (.copy 1),
    o1 34 (.data (.bin .add) [.t 33, .c (.int .i64 (1))]),
    o1 1 (.copy 34)])
  (.seq (.rg [⟨true, [], [], .det 1 (.copy 0), [35], (some 35), none⟩,
    o1 36 (.copy 5),
    o1 37 (.copy 1),
    o1 38 (.index 35 (.t 36)),
    o1 39 (.idx (.t 38)),
    o1 40 (.idx (.t 39)),
    o4 1 [0, 35] (.store 0 [(0, 14)] 3 (.t 40) (.t 37))])
  (.seq (.rg [o1 41 (.copy 1),
    o1 42 (.data (.bin .add) [.t 41, .c (.int .i64 (1))]),
    o1 1 (.copy 42)])
  (.seq (.rg [⟨true, [], [], .det 1 (.copy 0), [43], (some 43), none⟩,
    o1 44 (.copy 5),
    o1 45 (.copy 1),
    o1 46 (.index 43 (.t 44)),
    o1 47 (.idx (.t 46)),
    o1 48 (.idx (.t 47)),
    o4 1 [0, 43] (.store 0 [(0, 14)] 4 (.t 48) (.t 45))])
  (.seq (.rg [o1 49 (.copy 1),
    o1 50 (.data (.bin .add) [.t 49, .c (.int .i64 (1))]),
    o1 1 (.copy 50)])
  (.seq (.rg [⟨true, [], [], .det 1 (.copy 0), [51], (some 51), none⟩,
    o1 52 (.copy 5),
    o1 53 (.copy 1),
    o1 54 (.index 51 (.t 52)),
    o1 55 (.idx (.t 54)),
    o4 1 [0, 51] (.store 0 [(0, 14)] 5 (.t 55) (.t 53))])
  (.seq (.rg [o1 56 (.copy 1),
    o1 57 (.data (.bin .add) [.t 56, .c (.int .i64 (1))]),
    o1 1 (.copy 57)])
  (.seq (.rg [⟨true, [], [], .det 1 (.copy 0), [58], (some 58), none⟩,
    o1 59 (.copy 5),
    o1 60 (.copy 1),
    o1 61 (.index 58 (.t 59)),
    o1 62 (.idx (.t 61)),
    o1 63 (.idx (.t 62)),
    o4 1 [0, 58] (.store 0 [(0, 14)] 6 (.t 63) (.t 60))])
  (.seq (.rg [o1 64 (.copy 1),
    o1 65 (.data (.bin .add) [.t 64, .c (.int .i64 (1))]),
    o1 1 (.copy 65)])
  (.seq (.rg [⟨true, [], [], .det 1 (.copy 0), [66], (some 66), none⟩,
    o1 67 (.copy 5),
    o1 68 (.copy 1),
    o1 69 (.data (.bin .rem) [.t 68, .c (.int .i64 (3))]),
    o1 70 (.data (.bin .eql) [.t 69, .c (.int .i64 (0))]),
    o1 71 (.index 66 (.t 67)),
    o1 72 (.idx (.t 71)),
    o1 73 (.idx (.t 72)),
    o4 1 [0, 66] (.store 0 [(0, 14)] 7 (.t 73) (.t 70))])
  (.seq (.rg [o1 74 (.copy 1),
    o1 75 (.data (.bin .add) [.t 74, .c (.int .i64 (1))]),
    o1 1 (.copy 75)])
  (.seq (.rg [⟨true, [], [], .det 1 (.copy 0), [76], (some 76), none⟩,
    o1 77 (.copy 5),
    o1 78 (.index 76 (.t 77)),
    o1 79 (.idx (.t 78)),
    o1 80 (.idx (.t 79)),
    o1 81 (.load 0 [(0, 14)] 8 (.t 80) 1 true),
    o1 82 (.copy 1),
    ⟨false, [], [], .call 2 146 [.t 81, .t 82] (.mt 0 [(0, 14)] 8 81 0), [83, 0, 15, 16, 22, 23, 24, 30, 31, 32, 38, 39, 40, 46, 47, 48, 54, 55, 61, 62, 63, 71, 72, 73, 81, 80, 79, 78, 76], (some 83), none⟩,
    o1 1 (.copy 83)])
  (.seq (.rg [⟨true, [], [], .det 1 (.copy 0), [84], (some 84), none⟩,
    o1 85 (.copy 5),
    o1 86 (.index 84 (.t 85)),
    o1 87 (.idx (.t 86)),
    o1 88 (.idx (.t 87)),
    o1 89 (.load 0 [(0, 14)] 9 (.t 88) 1 true),
    o1 90 (.copy 1),
    ⟨false, [], [], .call 2 147 [.t 89, .t 90] (.mt 0 [(0, 14)] 9 89 0), [91, 0, 89, 88, 87, 86, 84], (some 91), none⟩,
    o1 1 (.copy 91)])
  (.seq (.rg [⟨true, [], [], .det 1 (.copy 0), [92], (some 92), none⟩,
    o1 93 (.copy 5),
    o1 94 (.copy 1),
    o1 95 (.index 92 (.t 93)),
    o1 96 (.idx (.t 95)),
    o1 97 (.idx (.t 96)),
    o4 1 [0, 92] (.store 0 [(0, 14)] 10 (.t 97) (.t 94))])
  (.seq (.rg [o1 98 (.copy 1),
    o1 99 (.data (.bin .add) [.t 98, .c (.int .i64 (1))]),
    o1 1 (.copy 99)])
  (.seq (.rg [⟨true, [], [], .det 1 (.copy 0), [100], (some 100), none⟩,
    o1 101 (.copy 5),
    o1 102 (.copy 1),
    o1 103 (.index 100 (.t 101)),
    o1 104 (.idx (.t 103)),
    o1 105 (.idx (.t 104)),
    o4 1 [0, 100] (.store 0 [(0, 14)] 11 (.t 105) (.t 102))])
  (.seq (.rg [o1 106 (.copy 1),
    o1 107 (.data (.bin .add) [.t 106, .c (.int .i64 (1))]),
    o1 1 (.copy 107)])
  (.seq (.rg [⟨true, [], [], .det 1 (.copy 0), [108], (some 108), none⟩,
    o1 109 (.copy 5),
    o1 110 (.index 108 (.t 109)),
    o1 111 (.idx (.t 110)),
    o1 112 (.idx (.t 111)),
    o1 113 (.load 0 [(0, 14)] 12 (.t 112) 1 true),
    o1 114 (.copy 1),
    ⟨false, [], [], .call 2 146 [.t 113, .t 114] (.mt 0 [(0, 14)] 12 113 0), [115, 0, 95, 96, 97, 103, 104, 105, 113, 112, 111, 110, 108], (some 115), none⟩,
    o1 1 (.copy 115)])
  (.seq (.rg [⟨true, [], [], .det 1 (.copy 0), [116], (some 116), none⟩,
    o1 117 (.copy 5),
    o1 118 (.copy 1),
    o1 119 (.index 116 (.t 117)),
    o1 120 (.idx (.t 119)),
    o1 121 (.idx (.t 120)),
    o4 1 [0, 116] (.store 0 [(0, 14)] 13 (.t 121) (.t 118))])
  (.rg [o1 122 (.copy 1),
    o1 123 (.data (.bin .add) [.t 122, .c (.int .i64 (1))]),
    o1 1 (.copy 123)]))))))))))))))))))))))))))
  (.rg [o1 10 (.copy 5),
    o1 11 (.data (.bin .add) [.t 10, .c (.int .i64 (1))]),
    o1 5 (.copy 11)])))))))
 (.seq (.rg [o1 124 (.copy 1),
   o1 4 (.copy 124)])
 .ret)))
def s_lmarkRecS : Sig := ⟨[.mt false [.sl (.own none) [.d, .d, .d, .d, .d, .d, .d, .d, .sl (.own none) [.d, .d], .sl (.own none) [.d], .d, .d, .sl (.own none) [.d, .d], .d]], .rd false [.d]], (.one false [.d])⟩
noncomputable def E_lmarkRecS : TEnv := envOf [(146, p_lmarkEdgeS), (147, p_lmarkIntS)]
noncomputable def f_lmarkRecS (n : Nat) : (List (Int × Int × Int × Int × Int × Int × Int × Bool × List (Int × Int) × List (Int) × Int × Int × List (Int × Int) × Int)) × Int → Option ((Int) × List (Int × Int × Int × Int × Int × Int × Int × Bool × List (Int × Int) × List (Int) × Int × Int × List (Int × Int) × Int)) := runFn n E_lmarkRecS c_lmarkRecS [[.sl [.i .i64, .i .i64, .i .i64, .i .i64, .i .i64, .i .i64, .i .i64, .b, .sl [.i .i64, .i .i64], .sl [.i .i64], .i .i64, .i .i64, .sl [.i .i64, .i .i64], .i .i64]], [.i .i64]] [.i .i64] [.sl [.i .i64, .i .i64, .i .i64, .i .i64, .i .i64, .i .i64, .i .i64, .b, .sl [.i .i64, .i .i64], .sl [.i .i64], .i .i64, .i .i64, .sl [.i .i64, .i .i64], .i .i64]] [4] (.mt 0 0 0)
noncomputable def g_lmarkRecS := f_lmarkRecS BIG
noncomputable def p_lmarkRecS : TSp := ⟨s_lmarkRecS, [[.sl [.i .i64, .i .i64, .i .i64, .i .i64, .i .i64, .i .i64, .i .i64, .b, .sl [.i .i64, .i .i64], .sl [.i .i64], .i .i64, .i .i64, .sl [.i .i64, .i .i64], .i .i64]], [.i .i64]], [.i .i64], [.sl [.i .i64, .i .i64, .i .i64, .i .i64, .i .i64, .i .i64, .i .i64, .b, .sl [.i .i64, .i .i64], .sl [.i .i64], .i .i64, .i .i64, .sl [.i .i64, .i .i64], .i .i64]], Ou.j (.mt 0 0 0), g_lmarkRecS⟩
theorem k_lmarkRecS : chkW PG E_lmarkRecS 57 s_lmarkRecS (c_lmarkRecS.ht 125) (.mt 0 0 0) = some (c_lmarkRecS.wc E_lmarkRecS, [4]) := by kernel_rfl
theorem ok_lmarkRecS : p_lmarkRecS.Ok PG 57 := mkOk (env_cons ok_lmarkEdgeS (env_cons ok_lmarkIntS (env_nil PG))) k_lmarkRecS (by kernel_rfl)
theorem e_lmarkRecS (n : Nat) (a0 : List (Int × Int × Int × Int × Int × Int × Int × Bool × (List (Int × Int)) × (List (Int)) × Int × Int × (List (Int × Int)) × Int)) (a1 : Int) : f_lmarkRecS n (a0, a1) =
  Option.bind (loopT n (X := (List (Int × Int × Int × Int × Int × Int × Int × Bool × (List (Int × Int)) × (List (Int)) × Int × Int × (List (Int × Int)) × Int)) × Int × Int) (B := (List (Int × Int × Int × Int × Int × Int × Int × Bool × (List (Int × Int)) × (List (Int)) × Int × Int × (List (Int × Int)) × Int)) × Int) (fun self1 x0 =>
    bif decide (x0.2.2 < (x0.1.length : Int)) then
     bnd x0.1.length x0.2.2 fun n2 =>
     Option.bind x0.1[n2]? fun y3 =>
     bnd (x0.1.set n2 (x0.2.1, y3.2)).length x0.2.2 fun n4 =>
     Option.bind (x0.1.set n2 (x0.2.1, y3.2))[n4]? fun y5 =>
     bnd ((x0.1.set n2 (x0.2.1, y3.2)).set n4 (y5.1, IntKind.wrap .i64 (x0.2.1 + (1 : Int)), y5.2.2)).length x0.2.2 fun n6 =>
     Option.bind ((x0.1.set n2 (x0.2.1, y3.2)).set n4 (y5.1, IntKind.wrap .i64 (x0.2.1 + (1 : Int)), y5.2.2))[n6]? fun y7 =>
     bnd (((x0.1.set n2 (x0.2.1, y3.2)).set n4 (y5.1, IntKind.wrap .i64 (x0.2.1 + (1 : Int)), y5.2.2)).set n6 (y7.1, y7.2.1, IntKind.wrap .i64 ((IntKind.wrap .i64 (x0.2.1 + (1 : Int))) + (1 : Int)), y7.2.2.2)).length x0.2.2 fun n8 =>
     Option.bind (((x0.1.set n2 (x0.2.1, y3.2)).set n4 (y5.1, IntKind.wrap .i64 (x0.2.1 + (1 : Int)), y5.2.2)).set n6 (y7.1, y7.2.1, IntKind.wrap .i64 ((IntKind.wrap .i64 (x0.2.1 + (1 : Int))) + (1 : Int)), y7.2.2.2))[n8]? fun y9 =>
     bnd ((((x0.1.set n2 (x0.2.1, y3.2)).set n4 (y5.1, IntKind.wrap .i64 (x0.2.1 + (1 : Int)), y5.2.2)).set n6 (y7.1, y7.2.1, IntKind.wrap .i64 ((IntKind.wrap .i64 (x0.2.1 + (1 : Int))) + (1 : Int)), y7.2.2.2)).set n8 (y9.1, y9.2.1, y9.2.2.1, IntKind.wrap .i64 ((IntKind.wrap .i64 ((IntKind.wrap .i64 (x0.2.1 + (1 : Int))) + (1 : Int))) + (1 : Int)), y9.2.2.2.2)).length x0.2.2 fun n10 =>
     Option.bind ((((x0.1.set n2 (x0.2.1, y3.2)).set n4 (y5.1, IntKind.wrap .i64 (x0.2.1 + (1 : Int)), y5.2.2)).set n6 (y7.1, y7.2.1, IntKind.wrap .i64 ((IntKind.wrap .i64 (x0.2.1 + (1 : Int))) + (1 : Int)), y7.2.2.2)).set n8 (y9.1, y9.2.1, y9.2.2.1, IntKind.wrap .i64 ((IntKind.wrap .i64 ((IntKind.wrap .i64 (x0.2.1 + (1 : Int))) + (1 : Int))) + (1 : Int)), y9.2.2.2.2))[n10]? fun y11 =>
     bnd (((((x0.1.set n2 (x0.2.1, y3.2)).set n4 (y5.1, IntKind.wrap .i64 (x0.2.1 + (1 : Int)), y5.2.2)).set n6 (y7.1, y7.2.1, IntKind.wrap .i64 ((IntKind.wrap .i64 (x0.2.1 + (1 : Int))) + (1 : Int)), y7.2.2.2)).set n8 (y9.1, y9.2.1, y9.2.2.1, IntKind.wrap .i64 ((IntKind.wrap .i64 ((IntKind.wrap .i64 (x0.2.1 + (1 : Int))) + (1 : Int))) + (1 : Int)), y9.2.2.2.2)).set n10 (y11.1, y11.2.1, y11.2.2.1, y11.2.2.2.1, IntKind.wrap .i64 ((IntKind.wrap .i64 ((IntKind.wrap .i64 ((IntKind.wrap .i64 (x0.2.1 + (1 : Int))) + (1 : Int))) + (1 : Int))) + (1 : Int)), y11.2.2.2.2.2)).length x0.2.2 fun n12 =>
     Option.bind (((((x0.1.set n2 (x0.2.1, y3.2)).set n4 (y5.1, IntKind.wrap .i64 (x0.2.1 + (1 : Int)), y5.2.2)).set n6 (y7.1, y7.2.1, IntKind.wrap .i64 ((IntKind.wrap .i64 (x0.2.1 + (1 : Int))) + (1 : Int)), y7.2.2.2)).set n8 (y9.1, y9.2.1, y9.2.2.1, IntKind.wrap .i64 ((IntKind.wrap .i64 ((IntKind.wrap .i64 (x0.2.1 + (1 : Int))) + (1 : Int))) + (1 : Int)), y9.2.2.2.2)).set n10 (y11.1, y11.2.1, y11.2.2.1, y11.2.2.2.1, IntKind.wrap .i64 ((IntKind.wrap .i64 ((IntKind.wrap .i64 ((IntKind.wrap .i64 (x0.2.1 + (1 : Int))) + (1 : Int))) + (1 : Int))) + (1 : Int)), y11.2.2.2.2.2))[n12]? fun y13 =>
     bnd ((((((x0.1.set n2 (x0.2.1, y3.2)).set n4 (y5.1, IntKind.wrap .i64 (x0.2.1 + (1 : Int)), y5.2.2)).set n6 (y7.1, y7.2.1, IntKind.wrap .i64 ((IntKind.wrap .i64 (x0.2.1 + (1 : Int))) + (1 : Int)), y7.2.2.2)).set n8 (y9.1, y9.2.1, y9.2.2.1, IntKind.wrap .i64 ((IntKind.wrap .i64 ((IntKind.wrap .i64 (x0.2.1 + (1 : Int))) + (1 : Int))) + (1 : Int)), y9.2.2.2.2)).set n10 (y11.1, y11.2.1, y11.2.2.1, y11.2.2.2.1, IntKind.wrap .i64 ((IntKind.wrap .i64 ((IntKind.wrap .i64 ((IntKind.wrap .i64 (x0.2.1 + (1 : Int))) + (1 : Int))) + (1 : Int))) + (1 : Int)), y11.2.2.2.2.2)).set n12 (y13.1, y13.2.1, y13.2.2.1, y13.2.2.2.1, y13.2.2.2.2.1, IntKind.wrap .i64 ((IntKind.wrap .i64 ((IntKind.wrap .i64 ((IntKind.wrap .i64 ((IntKind.wrap .i64 (x0.2.1 + (1 : Int))) + (1 : Int))) + (1 : Int))) + (1 : Int))) + (1 : Int)), y13.2.2.2.2.2.2)).length x0.2.2 fun n14 =>
     Option.bind ((((((x0.1.set n2 (x0.2.1, y3.2)).set n4 (y5.1, IntKind.wrap .i64 (x0.2.1 + (1 : Int)), y5.2.2)).set n6 (y7.1, y7.2.1, IntKind.wrap .i64 ((IntKind.wrap .i64 (x0.2.1 + (1 : Int))) + (1 : Int)), y7.2.2.2)).set n8 (y9.1, y9.2.1, y9.2.2.1, IntKind.wrap .i64 ((IntKind.wrap .i64 ((IntKind.wrap .i64 (x0.2.1 + (1 : Int))) + (1 : Int))) + (1 : Int)), y9.2.2.2.2)).set n10 (y11.1, y11.2.1, y11.2.2.1, y11.2.2.2.1, IntKind.wrap .i64 ((IntKind.wrap .i64 ((IntKind.wrap .i64 ((IntKind.wrap .i64 (x0.2.1 + (1 : Int))) + (1 : Int))) + (1 : Int))) + (1 : Int)), y11.2.2.2.2.2)).set n12 (y13.1, y13.2.1, y13.2.2.1, y13.2.2.2.1, y13.2.2.2.2.1, IntKind.wrap .i64 ((IntKind.wrap .i64 ((IntKind.wrap .i64 ((IntKind.wrap .i64 ((IntKind.wrap .i64 (x0.2.1 + (1 : Int))) + (1 : Int))) + (1 : Int))) + (1 : Int))) + (1 : Int)), y13.2.2.2.2.2.2))[n14]? fun y15 =>
     bif decide ((3 : Int) = 0) then
      none
     else bnd (((((((x0.1.set n2 (x0.2.1, y3.2)).set n4 (y5.1, IntKind.wrap .i64 (x0.2.1 + (1 : Int)), y5.2.2)).set n6 (y7.1, y7.2.1, IntKind.wrap .i64 ((IntKind.wrap .i64 (x0.2.1 + (1 : Int))) + (1 : Int)), y7.2.2.2)).set n8 (y9.1, y9.2.1, y9.2.2.1, IntKind.wrap .i64 ((IntKind.wrap .i64 ((IntKind.wrap .i64 (x0.2.1 + (1 : Int))) + (1 : Int))) + (1 : Int)), y9.2.2.2.2)).set n10 (y11.1, y11.2.1, y11.2.2.1, y11.2.2.2.1, IntKind.wrap .i64 ((IntKind.wrap .i64 ((IntKind.wrap .i64 ((IntKind.wrap .i64 (x0.2.1 + (1 : Int))) + (1 : Int))) + (1 : Int))) + (1 : Int)), y11.2.2.2.2.2)).set n12 (y13.1, y13.2.1, y13.2.2.1, y13.2.2.2.1, y13.2.2.2.2.1, IntKind.wrap .i64 ((IntKind.wrap .i64 ((IntKind.wrap .i64 ((IntKind.wrap .i64 ((IntKind.wrap .i64 (x0.2.1 + (1 : Int))) + (1 : Int))) + (1 : Int))) + (1 : Int))) + (1 : Int)), y13.2.2.2.2.2.2)).set n14 (y15.1, y15.2.1, y15.2.2.1, y15.2.2.2.1, y15.2.2.2.2.1, y15.2.2.2.2.2.1, IntKind.wrap .i64 ((IntKind.wrap .i64 ((IntKind.wrap .i64 ((IntKind.wrap .i64 ((IntKind.wrap .i64 ((IntKind.wrap .i64 (x0.2.1 + (1 : Int))) + (1 : Int))) + (1 : Int))) + (1 : Int))) + (1 : Int))) + (1 : Int)), y15.2.2.2.2.2.2.2)).length x0.2.2 fun n16 =>
     Option.bind (((((((x0.1.set n2 (x0.2.1, y3.2)).set n4 (y5.1, IntKind.wrap .i64 (x0.2.1 + (1 : Int)), y5.2.2)).set n6 (y7.1, y7.2.1, IntKind.wrap .i64 ((IntKind.wrap .i64 (x0.2.1 + (1 : Int))) + (1 : Int)), y7.2.2.2)).set n8 (y9.1, y9.2.1, y9.2.2.1, IntKind.wrap .i64 ((IntKind.wrap .i64 ((IntKind.wrap .i64 (x0.2.1 + (1 : Int))) + (1 : Int))) + (1 : Int)), y9.2.2.2.2)).set n10 (y11.1, y11.2.1, y11.2.2.1, y11.2.2.2.1, IntKind.wrap .i64 ((IntKind.wrap .i64 ((IntKind.wrap .i64 ((IntKind.wrap .i64 (x0.2.1 + (1 : Int))) + (1 : Int))) + (1 : Int))) + (1 : Int)), y11.2.2.2.2.2)).set n12 (y13.1, y13.2.1, y13.2.2.1, y13.2.2.2.1, y13.2.2.2.2.1, IntKind.wrap .i64 ((IntKind.wrap .i64 ((IntKind.wrap .i64 ((IntKind.wrap .i64 ((IntKind.wrap .i64 (x0.2.1 + (1 : Int))) + (1 : Int))) + (1 : Int))) + (1 : Int))) + (1 : Int)), y13.2.2.2.2.2.2)).set n14 (y15.1, y15.2.1, y15.2.2.1, y15.2.2.2.1, y15.2.2.2.2.1, y15.2.2.2.2.2.1, IntKind.wrap .i64 ((IntKind.wrap .i64 ((IntKind.wrap .i64 ((IntKind.wrap .i64 ((IntKind.wrap .i64 ((IntKind.wrap .i64 (x0.2.1 + (1 : Int))) + (1 : Int))) + (1 : Int))) + (1 : Int))) + (1 : Int))) + (1 : Int)), y15.2.2.2.2.2.2.2))[n16]? fun y17 =>
     bnd ((((((((x0.1.set n2 (x0.2.1, y3.2)).set n4 (y5.1, IntKind.wrap .i64 (x0.2.1 + (1 : Int)), y5.2.2)).set n6 (y7.1, y7.2.1, IntKind.wrap .i64 ((IntKind.wrap .i64 (x0.2.1 + (1 : Int))) + (1 : Int)), y7.2.2.2)).set n8 (y9.1, y9.2.1, y9.2.2.1, IntKind.wrap .i64 ((IntKind.wrap .i64 ((IntKind.wrap .i64 (x0.2.1 + (1 : Int))) + (1 : Int))) + (1 : Int)), y9.2.2.2.2)).set n10 (y11.1, y11.2.1, y11.2.2.1, y11.2.2.2.1, IntKind.wrap .i64 ((IntKind.wrap .i64 ((IntKind.wrap .i64 ((IntKind.wrap .i64 (x0.2.1 + (1 : Int))) + (1 : Int))) + (1 : Int))) + (1 : Int)), y11.2.2.2.2.2)).set n12 (y13.1, y13.2.1, y13.2.2.1, y13.2.2.2.1, y13.2.2.2.2.1, IntKind.wrap .i64 ((IntKind.wrap .i64 ((IntKind.wrap .i64 ((IntKind.wrap .i64 ((IntKind.wrap .i64 (x0.2.1 + (1 : Int))) + (1 : Int))) + (1 : Int))) + (1 : Int))) + (1 : Int)), y13.2.2.2.2.2.2)).set n14 (y15.1, y15.2.1, y15.2.2.1, y15.2.2.2.1, y15.2.2.2.2.1, y15.2.2.2.2.2.1, IntKind.wrap .i64 ((IntKind.wrap .i64 ((IntKind.wrap .i64 ((IntKind.wrap .i64 ((IntKind.wrap .i64 ((IntKind.wrap .i64 (x0.2.1 + (1 : Int))) + (1 : Int))) + (1 : Int))) + (1 : Int))) + (1 : Int))) + (1 : Int)), y15.2.2.2.2.2.2.2)).set n16 (y17.1, y17.2.1, y17.2.2.1, y17.2.2.2.1, y17.2.2.2.2.1, y17.2.2.2.2.2.1, y17.2.2.2.2.2.2.1, decide ((Int.tmod (IntKind.wrap .i64 ((IntKind.wrap .i64 ((IntKind.wrap .i64 ((IntKind.wrap .i64 ((IntKind.wrap .i64 ((IntKind.wrap .i64 ((IntKind.wrap .i64 (x0.2.1 + (1 : Int))) + (1 : Int))) + (1 : Int))) + (1 : Int))) + (1 : Int))) + (1 : Int))) + (1 : Int))) (3 : Int)) = (0 : Int)), y17.2.2.2.2.2.2.2.2)).length x0.2.2 fun n18 =>
     Option.bind ((((((((x0.1.set n2 (x0.2.1, y3.2)).set n4 (y5.1, IntKind.wrap .i64 (x0.2.1 + (1 : Int)), y5.2.2)).set n6 (y7.1, y7.2.1, IntKind.wrap .i64 ((IntKind.wrap .i64 (x0.2.1 + (1 : Int))) + (1 : Int)), y7.2.2.2)).set n8 (y9.1, y9.2.1, y9.2.2.1, IntKind.wrap .i64 ((IntKind.wrap .i64 ((IntKind.wrap .i64 (x0.2.1 + (1 : Int))) + (1 : Int))) + (1 : Int)), y9.2.2.2.2)).set n10 (y11.1, y11.2.1, y11.2.2.1, y11.2.2.2.1, IntKind.wrap .i64 ((IntKind.wrap .i64 ((IntKind.wrap .i64 ((IntKind.wrap .i64 (x0.2.1 + (1 : Int))) + (1 : Int))) + (1 : Int))) + (1 : Int)), y11.2.2.2.2.2)).set n12 (y13.1, y13.2.1, y13.2.2.1, y13.2.2.2.1, y13.2.2.2.2.1, IntKind.wrap .i64 ((IntKind.wrap .i64 ((IntKind.wrap .i64 ((IntKind.wrap .i64 ((IntKind.wrap .i64 (x0.2.1 + (1 : Int))) + (1 : Int))) + (1 : Int))) + (1 : Int))) + (1 : Int)), y13.2.2.2.2.2.2)).set n14 (y15.1, y15.2.1, y15.2.2.1, y15.2.2.2.1, y15.2.2.2.2.1, y15.2.2.2.2.2.1, IntKind.wrap .i64 ((IntKind.wrap .i64 ((IntKind.wrap .i64 ((IntKind.wrap .i64 ((IntKind.wrap .i64 ((IntKind.wrap .i64 (x0.2.1 + (1 : Int))) + (1 : Int))) + (1 : Int))) + (1 : Int))) + (1 : Int))) + (1 : Int)), y15.2.2.2.2.2.2.2)).set n16 (y17.1, y17.2.1, y17.2.2.1, y17.2.2.2.1, y17.2.2.2.2.1, y17.2.2.2.2.2.1, y17.2.2.2.2.2.2.1, decide ((Int.tmod (IntKind.wrap .i64 ((IntKind.wrap .i64 ((IntKind.wrap .i64 ((IntKind.wrap .i64 ((IntKind.wrap .i64 ((IntKind.wrap .i64 ((IntKind.wrap .i64 (x0.2.1 + (1 : Int))) + (1 : Int))) + (1 : Int))) + (1 : Int))) + (1 : Int))) + (1 : Int))) + (1 : Int))) (3 : Int)) = (0 : Int)), y17.2.2.2.2.2.2.2.2))[n18]? fun y19 =>
     Option.bind (g_lmarkEdgeS (y19.2.2.2.2.2.2.2.2.1, IntKind.wrap .i64 ((IntKind.wrap .i64 ((IntKind.wrap .i64 ((IntKind.wrap .i64 ((IntKind.wrap .i64 ((IntKind.wrap .i64 ((IntKind.wrap .i64 ((IntKind.wrap .i64 (x0.2.1 + (1 : Int))) + (1 : Int))) + (1 : Int))) + (1 : Int))) + (1 : Int))) + (1 : Int))) + (1 : Int))) + (1 : Int)))) fun r20 =>
     Option.bind ((((((((x0.1.set n2 (x0.2.1, y3.2)).set n4 (y5.1, IntKind.wrap .i64 (x0.2.1 + (1 : Int)), y5.2.2)).set n6 (y7.1, y7.2.1, IntKind.wrap .i64 ((IntKind.wrap .i64 (x0.2.1 + (1 : Int))) + (1 : Int)), y7.2.2.2)).set n8 (y9.1, y9.2.1, y9.2.2.1, IntKind.wrap .i64 ((IntKind.wrap .i64 ((IntKind.wrap .i64 (x0.2.1 + (1 : Int))) + (1 : Int))) + (1 : Int)), y9.2.2.2.2)).set n10 (y11.1, y11.2.1, y11.2.2.1, y11.2.2.2.1, IntKind.wrap .i64 ((IntKind.wrap .i64 ((IntKind.wrap .i64 ((IntKind.wrap .i64 (x0.2.1 + (1 : Int))) + (1 : Int))) + (1 : Int))) + (1 : Int)), y11.2.2.2.2.2)).set n12 (y13.1, y13.2.1, y13.2.2.1, y13.2.2.2.1, y13.2.2.2.2.1, IntKind.wrap .i64 ((IntKind.wrap .i64 ((IntKind.wrap .i64 ((IntKind.wrap .i64 ((IntKind.wrap .i64 (x0.2.1 + (1 : Int))) + (1 : Int))) + (1 : Int))) + (1 : Int))) + (1 : Int)), y13.2.2.2.2.2.2)).set n14 (y15.1, y15.2.1, y15.2.2.1, y15.2.2.2.1, y15.2.2.2.2.1, y15.2.2.2.2.2.1, IntKind.wrap .i64 ((IntKind.wrap .i64 ((IntKind.wrap .i64 ((IntKind.wrap .i64 ((IntKind.wrap .i64 ((IntKind.wrap .i64 (x0.2.1 + (1 : Int))) + (1 : Int))) + (1 : Int))) + (1 : Int))) + (1 : Int))) + (1 : Int)), y15.2.2.2.2.2.2.2)).set n16 (y17.1, y17.2.1, y17.2.2.1, y17.2.2.2.1, y17.2.2.2.2.1, y17.2.2.2.2.2.1, y17.2.2.2.2.2.2.1, decide ((Int.tmod (IntKind.wrap .i64 ((IntKind.wrap .i64 ((IntKind.wrap .i64 ((IntKind.wrap .i64 ((IntKind.wrap .i64 ((IntKind.wrap .i64 ((IntKind.wrap .i64 (x0.2.1 + (1 : Int))) + (1 : Int))) + (1 : Int))) + (1 : Int))) + (1 : Int))) + (1 : Int))) + (1 : Int))) (3 : Int)) = (0 : Int)), y17.2.2.2.2.2.2.2.2))[n18]? fun y21 =>
     bnd (((((((((x0.1.set n2 (x0.2.1, y3.2)).set n4 (y5.1, IntKind.wrap .i64 (x0.2.1 + (1 : Int)), y5.2.2)).set n6 (y7.1, y7.2.1, IntKind.wrap .i64 ((IntKind.wrap .i64 (x0.2.1 + (1 : Int))) + (1 : Int)), y7.2.2.2)).set n8 (y9.1, y9.2.1, y9.2.2.1, IntKind.wrap .i64 ((IntKind.wrap .i64 ((IntKind.wrap .i64 (x0.2.1 + (1 : Int))) + (1 : Int))) + (1 : Int)), y9.2.2.2.2)).set n10 (y11.1, y11.2.1, y11.2.2.1, y11.2.2.2.1, IntKind.wrap .i64 ((IntKind.wrap .i64 ((IntKind.wrap .i64 ((IntKind.wrap .i64 (x0.2.1 + (1 : Int))) + (1 : Int))) + (1 : Int))) + (1 : Int)), y11.2.2.2.2.2)).set n12 (y13.1, y13.2.1, y13.2.2.1, y13.2.2.2.1, y13.2.2.2.2.1, IntKind.wrap .i64 ((IntKind.wrap .i64 ((IntKind.wrap .i64 ((IntKind.wrap .i64 ((IntKind.wrap .i64 (x0.2.1 + (1 : Int))) + (1 : Int))) + (1 : Int))) + (1 : Int))) + (1 : Int)), y13.2.2.2.2.2.2)).set n14 (y15.1, y15.2.1, y15.2.2.1, y15.2.2.2.1, y15.2.2.2.2.1, y15.2.2.2.2.2.1, IntKind.wrap .i64 ((IntKind.wrap .i64 ((IntKind.wrap .i64 ((IntKind.wrap .i64 ((IntKind.wrap .i64 ((IntKind.wrap .i64 (x0.2.1 + (1 : Int))) + (1 : Int))) + (1 : Int))) + (1 : Int))) + (1 : Int))) + (1 : Int)), y15.2.2.2.2.2.2.2)).set n16 (y17.1, y17.2.1, y17.2.2.1, y17.2.2.2.1, y17.2.2.2.2.1, y17.2.2.2.2.2.1, y17.2.2.2.2.2.2.1, decide ((Int.tmod (IntKind.wrap .i64 ((IntKind.wrap .i64 ((IntKind.wrap .i64 ((IntKind.wrap .i64 ((IntKind.wrap .i64 ((IntKind.wrap .i64 ((IntKind.wrap .i64 (x0.2.1 + (1 : Int))) + (1 : Int))) + (1 : Int))) + (1 : Int))) + (1 : Int))) + (1 : Int))) + (1 : Int))) (3 : Int)) = (0 : Int)), y17.2.2.2.2.2.2.2.2)).set n18 (y21.1, y21.2.1, y21.2.2.1, y21.2.2.2.1, y21.2.2.2.2.1, y21.2.2.2.2.2.1, y21.2.2.2.2.2.2.1, y21.2.2.2.2.2.2.2.1, r20.2, y21.2.2.2.2.2.2.2.2.2)).length x0.2.2 fun n22 =>
     Option.bind (((((((((x0.1.set n2 (x0.2.1, y3.2)).set n4 (y5.1, IntKind.wrap .i64 (x0.2.1 + (1 : Int)), y5.2.2)).set n6 (y7.1, y7.2.1, IntKind.wrap .i64 ((IntKind.wrap .i64 (x0.2.1 + (1 : Int))) + (1 : Int)), y7.2.2.2)).set n8 (y9.1, y9.2.1, y9.2.2.1, IntKind.wrap .i64 ((IntKind.wrap .i64 ((IntKind.wrap .i64 (x0.2.1 + (1 : Int))) + (1 : Int))) + (1 : Int)), y9.2.2.2.2)).set n10 (y11.1, y11.2.1, y11.2.2.1, y11.2.2.2.1, IntKind.wrap .i64 ((IntKind.wrap .i64 ((IntKind.wrap .i64 ((IntKind.wrap .i64 (x0.2.1 + (1 : Int))) + (1 : Int))) + (1 : Int))) + (1 : Int)), y11.2.2.2.2.2)).set n12 (y13.1, y13.2.1, y13.2.2.1, y13.2.2.2.1, y13.2.2.2.2.1, IntKind.wrap .i64 ((IntKind.wrap .i64 ((IntKind.wrap .i64 ((IntKind.wrap .i64 ((IntKind.wrap .i64 (x0.2.1 + (1 : Int))) + (1 : Int))) + (1 : Int))) + (1 : Int))) + (1 : Int)), y13.2.2.2.2.2.2)).set n14 (y15.1, y15.2.1, y15.2.2.1, y15.2.2.2.1, y15.2.2.2.2.1, y15.2.2.2.2.2.1, IntKind.wrap .i64 ((IntKind.wrap .i64 ((IntKind.wrap .i64 ((IntKind.wrap .i64 ((IntKind.wrap .i64 ((IntKind.wrap .i64 (x0.2.1 + (1 : Int))) + (1 : Int))) + (1 : Int))) + (1 : Int))) + (1 : Int))) + (1 : Int)), y15.2.2.2.2.2.2.2)).set n16 (y17.1, y17.2.1, y17.2.2.1, y17.2.2.2.1, y17.2.2.2.2.1, y17.2.2.2.2.2.1, y17.2.2.2.2.2.2.1, decide ((Int.tmod (IntKind.wrap .i64 ((IntKind.wrap .i64 ((IntKind.wrap .i64 ((IntKind.wrap .i64 ((IntKind.wrap .i64 ((IntKind.wrap .i64 ((IntKind.wrap .i64 (x0.2.1 + (1 : Int))) + (1 : Int))) + (1 : Int))) + (1 : Int))) + (1 : Int))) + (1 : Int))) + (1 : Int))) (3 : Int)) = (0 : Int)), y17.2.2.2.2.2.2.2.2)).set n18 (y21.1, y21.2.1, y21.2.2.1, y21.2.2.2.1, y21.2.2.2.2.1, y21.2.2.2.2.2.1, y21.2.2.2.2.2.2.1, y21.2.2.2.2.2.2.2.1, r20.2, y21.2.2.2.2.2.2.2.2.2))[n22]? fun y23 =>
     Option.bind (g_lmarkIntS (y23.2.2.2.2.2.2.2.2.2.1, r20.1)) fun r24 =>
     Option.bind (((((((((x0.1.set n2 (x0.2.1, y3.2)).set n4 (y5.1, IntKind.wrap .i64 (x0.2.1 + (1 : Int)), y5.2.2)).set n6 (y7.1, y7.2.1, IntKind.wrap .i64 ((IntKind.wrap .i64 (x0.2.1 + (1 : Int))) + (1 : Int)), y7.2.2.2)).set n8 (y9.1, y9.2.1, y9.2.2.1, IntKind.wrap .i64 ((IntKind.wrap .i64 ((IntKind.wrap .i64 (x0.2.1 + (1 : Int))) + (1 : Int))) + (1 : Int)), y9.2.2.2.2)).set n10 (y11.1, y11.2.1, y11.2.2.1, y11.2.2.2.1, IntKind.wrap .i64 ((IntKind.wrap .i64 ((IntKind.wrap .i64 ((IntKind.wrap .i64 (x0.2.1 + (1 : Int))) + (1 : Int))) + (1 : Int))) + (1 : Int)), y11.2.2.2.2.2)).set n12 (y13.1, y13.2.1, y13.2.2.1, y13.2.2.2.1, y13.2.2.2.2.1, IntKind.wrap .i64 ((IntKind.wrap .i64 ((IntKind.wrap .i64 ((IntKind.wrap .i64 ((IntKind.wrap .i64 (x0.2.1 + (1 : Int))) + (1 : Int))) + (1 : Int))) + (1 : Int))) + (1 : Int)), y13.2.2.2.2.2.2)).set n14 (y15.1, y15.2.1, y15.2.2.1, y15.2.2.2.1, y15.2.2.2.2.1, y15.2.2.2.2.2.1, IntKind.wrap .i64 ((IntKind.wrap .i64 ((IntKind.wrap .i64 ((IntKind.wrap .i64 ((IntKind.wrap .i64 ((IntKind.wrap .i64 (x0.2.1 + (1 : Int))) + (1 : Int))) + (1 : Int))) + (1 : Int))) + (1 : Int))) + (1 : Int)), y15.2.2.2.2.2.2.2)).set n16 (y17.1, y17.2.1, y17.2.2.1, y17.2.2.2.1, y17.2.2.2.2.1, y17.2.2.2.2.2.1, y17.2.2.2.2.2.2.1, decide ((Int.tmod (IntKind.wrap .i64 ((IntKind.wrap .i64 ((IntKind.wrap .i64 ((IntKind.wrap .i64 ((IntKind.wrap .i64 ((IntKind.wrap .i64 ((IntKind.wrap .i64 (x0.2.1 + (1 : Int))) + (1 : Int))) + (1 : Int))) + (1 : Int))) + (1 : Int))) + (1 : Int))) + (1 : Int))) (3 : Int)) = (0 : Int)), y17.2.2.2.2.2.2.2.2)).set n18 (y21.1, y21.2.1, y21.2.2.1, y21.2.2.2.1, y21.2.2.2.2.1, y21.2.2.2.2.2.1, y21.2.2.2.2.2.2.1, y21.2.2.2.2.2.2.2.1, r20.2, y21.2.2.2.2.2.2.2.2.2))[n22]? fun y25 =>
     bnd ((((((((((x0.1.set n2 (x0.2.1, y3.2)).set n4 (y5.1, IntKind.wrap .i64 (x0.2.1 + (1 : Int)), y5.2.2)).set n6 (y7.1, y7.2.1, IntKind.wrap .i64 ((IntKind.wrap .i64 (x0.2.1 + (1 : Int))) + (1 : Int)), y7.2.2.2)).set n8 (y9.1, y9.2.1, y9.2.2.1, IntKind.wrap .i64 ((IntKind.wrap .i64 ((IntKind.wrap .i64 (x0.2.1 + (1 : Int))) + (1 : Int))) + (1 : Int)), y9.2.2.2.2)).set n10 (y11.1, y11.2.1, y11.2.2.1, y11.2.2.2.1, IntKind.wrap .i64 ((IntKind.wrap .i64 ((IntKind.wrap .i64 ((IntKind.wrap .i64 (x0.2.1 + (1 : Int))) + (1 : Int))) + (1 : Int))) + (1 : Int)), y11.2.2.2.2.2)).set n12 (y13.1, y13.2.1, y13.2.2.1, y13.2.2.2.1, y13.2.2.2.2.1, IntKind.wrap .i64 ((IntKind.wrap .i64 ((IntKind.wrap .i64 ((IntKind.wrap .i64 ((IntKind.wrap .i64 (x0.2.1 + (1 : Int))) + (1 : Int))) + (1 : Int))) + (1 : Int))) + (1 : Int)), y13.2.2.2.2.2.2)).set n14 (y15.1, y15.2.1, y15.2.2.1, y15.2.2.2.1, y15.2.2.2.2.1, y15.2.2.2.2.2.1, IntKind.wrap .i64 ((IntKind.wrap .i64 ((IntKind.wrap .i64 ((IntKind.wrap .i64 ((IntKind.wrap .i64 ((IntKind.wrap .i64 (x0.2.1 + (1 : Int))) + (1 : Int))) + (1 : Int))) + (1 : Int))) + (1 : Int))) + (1 : Int)), y15.2.2.2.2.2.2.2)).set n16 (y17.1, y17.2.1, y17.2.2.1, y17.2.2.2.1, y17.2.2.2.2.1, y17.2.2.2.2.2.1, y17.2.2.2.2.2.2.1, decide ((Int.tmod (IntKind.wrap .i64 ((IntKind.wrap .i64 ((IntKind.wrap .i64 ((IntKind.wrap .i64 ((IntKind.wrap .i64 ((IntKind.wrap .i64 ((IntKind.wrap .i64 (x0.2.1 + (1 : Int))) + (1 : Int))) + (1 : Int))) + (1 : Int))) + (1 : Int))) + (1 : Int))) + (1 : Int))) (3 : Int)) = (0 : Int)), y17.2.2.2.2.2.2.2.2)).set n18 (y21.1, y21.2.1, y21.2.2.1, y21.2.2.2.1, y21.2.2.2.2.1, y21.2.2.2.2.2.1, y21.2.2.2.2.2.2.1, y21.2.2.2.2.2.2.2.1, r20.2, y21.2.2.2.2.2.2.2.2.2)).set n22 (y25.1, y25.2.1, y25.2.2.1, y25.2.2.2.1, y25.2.2.2.2.1, y25.2.2.2.2.2.1, y25.2.2.2.2.2.2.1, y25.2.2.2.2.2.2.2.1, y25.2.2.2.2.2.2.2.2.1, r24.2, y25.2.2.2.2.2.2.2.2.2.2)).length x0.2.2 fun n26 =>
     Option.bind ((((((((((x0.1.set n2 (x0.2.1, y3.2)).set n4 (y5.1, IntKind.wrap .i64 (x0.2.1 + (1 : Int)), y5.2.2)).set n6 (y7.1, y7.2.1, IntKind.wrap .i64 ((IntKind.wrap .i64 (x0.2.1 + (1 : Int))) + (1 : Int)), y7.2.2.2)).set n8 (y9.1, y9.2.1, y9.2.2.1, IntKind.wrap .i64 ((IntKind.wrap .i64 ((IntKind.wrap .i64 (x0.2.1 + (1 : Int))) + (1 : Int))) + (1 : Int)), y9.2.2.2.2)).set n10 (y11.1, y11.2.1, y11.2.2.1, y11.2.2.2.1, IntKind.wrap .i64 ((IntKind.wrap .i64 ((IntKind.wrap .i64 ((IntKind.wrap .i64 (x0.2.1 + (1 : Int))) + (1 : Int))) + (1 : Int))) + (1 : Int)), y11.2.2.2.2.2)).set n12 (y13.1, y13.2.1, y13.2.2.1, y13.2.2.2.1, y13.2.2.2.2.1, IntKind.wrap .i64 ((IntKind.wrap .i64 ((IntKind.wrap .i64 ((IntKind.wrap .i64 ((IntKind.wrap .i64 (x0.2.1 + (1 : Int))) + (1 : Int))) + (1 : Int))) + (1 : Int))) + (1 : Int)), y13.2.2.2.2.2.2)).set n14 (y15.1, y15.2.1, y15.2.2.1, y15.2.2.2.1, y15.2.2.2.2.1, y15.2.2.2.2.2.1, IntKind.wrap .i64 ((IntKind.wrap .i64 ((IntKind.wrap .i64 ((IntKind.wrap .i64 ((IntKind.wrap .i64 ((IntKind.wrap .i64 (x0.2.1 + (1 : Int))) + (1 : Int))) + (1 : Int))) + (1 : Int))) + (1 : Int))) + (1 : Int)), y15.2.2.2.2.2.2.2)).set n16 (y17.1, y17.2.1, y17.2.2.1, y17.2.2.2.1, y17.2.2.2.2.1, y17.2.2.2.2.2.1, y17.2.2.2.2.2.2.1, decide ((Int.tmod (IntKind.wrap .i64 ((IntKind.wrap .i64 ((IntKind.wrap .i64 ((IntKind.wrap .i64 ((IntKind.wrap .i64 ((IntKind.wrap .i64 ((IntKind.wrap .i64 (x0.2.1 + (1 : Int))) + (1 : Int))) + (1 : Int))) + (1 : Int))) + (1 : Int))) + (1 : Int))) + (1 : Int))) (3 : Int)) = (0 : Int)), y17.2.2.2.2.2.2.2.2)).set n18 (y21.1, y21.2.1, y21.2.2.1, y21.2.2.2.1, y21.2.2.2.2.1, y21.2.2.2.2.2.1, y21.2.2.2.2.2.2.1, y21.2.2.2.2.2.2.2.1, r20.2, y21.2.2.2.2.2.2.2.2.2)).set n22 (y25.1, y25.2.1, y25.2.2.1, y25.2.2.2.1, y25.2.2.2.2.1, y25.2.2.2.2.2.1, y25.2.2.2.2.2.2.1, y25.2.2.2.2.2.2.2.1, y25.2.2.2.2.2.2.2.2.1, r24.2, y25.2.2.2.2.2.2.2.2.2.2))[n26]? fun y27 =>
     bnd (((((((((((x0.1.set n2 (x0.2.1, y3.2)).set n4 (y5.1, IntKind.wrap .i64 (x0.2.1 + (1 : Int)), y5.2.2)).set n6 (y7.1, y7.2.1, IntKind.wrap .i64 ((IntKind.wrap .i64 (x0.2.1 + (1 : Int))) + (1 : Int)), y7.2.2.2)).set n8 (y9.1, y9.2.1, y9.2.2.1, IntKind.wrap .i64 ((IntKind.wrap .i64 ((IntKind.wrap .i64 (x0.2.1 + (1 : Int))) + (1 : Int))) + (1 : Int)), y9.2.2.2.2)).set n10 (y11.1, y11.2.1, y11.2.2.1, y11.2.2.2.1, IntKind.wrap .i64 ((IntKind.wrap .i64 ((IntKind.wrap .i64 ((IntKind.wrap .i64 (x0.2.1 + (1 : Int))) + (1 : Int))) + (1 : Int))) + (1 : Int)), y11.2.2.2.2.2)).set n12 (y13.1, y13.2.1, y13.2.2.1, y13.2.2.2.1, y13.2.2.2.2.1, IntKind.wrap .i64 ((IntKind.wrap .i64 ((IntKind.wrap .i64 ((IntKind.wrap .i64 ((IntKind.wrap .i64 (x0.2.1 + (1 : Int))) + (1 : Int))) + (1 : Int))) + (1 : Int))) + (1 : Int)), y13.2.2.2.2.2.2)).set n14 (y15.1, y15.2.1, y15.2.2.1, y15.2.2.2.1, y15.2.2.2.2.1, y15.2.2.2.2.2.1, IntKind.wrap .i64 ((IntKind.wrap .i64 ((IntKind.wrap .i64 ((IntKind.wrap .i64 ((IntKind.wrap .i64 ((IntKind.wrap .i64 (x0.2.1 + (1 : Int))) + (1 : Int))) + (1 : Int))) + (1 : Int))) + (1 : Int))) + (1 : Int)), y15.2.2.2.2.2.2.2)).set n16 (y17.1, y17.2.1, y17.2.2.1, y17.2.2.2.1, y17.2.2.2.2.1, y17.2.2.2.2.2.1, y17.2.2.2.2.2.2.1, decide ((Int.tmod (IntKind.wrap .i64 ((IntKind.wrap .i64 ((IntKind.wrap .i64 ((IntKind.wrap .i64 ((IntKind.wrap .i64 ((IntKind.wrap .i64 ((IntKind.wrap .i64 (x0.2.1 + (1 : Int))) + (1 : Int))) + (1 : Int))) + (1 : Int))) + (1 : Int))) + (1 : Int))) + (1 : Int))) (3 : Int)) = (0 : Int)), y17.2.2.2.2.2.2.2.2)).set n18 (y21.1, y21.2.1, y21.2.2.1, y21.2.2.2.1, y21.2.2.2.2.1, y21.2.2.2.2.2.1, y21.2.2.2.2.2.2.1, y21.2.2.2.2.2.2.2.1, r20.2, y21.2.2.2.2.2.2.2.2.2)).set n22 (y25.1, y25.2.1, y25.2.2.1, y25.2.2.2.1, y25.2.2.2.2.1, y25.2.2.2.2.2.1, y25.2.2.2.2.2.2.1, y25.2.2.2.2.2.2.2.1, y25.2.2.2.2.2.2.2.2.1, r24.2, y25.2.2.2.2.2.2.2.2.2.2)).set n26 (y27.1, y27.2.1, y27.2.2.1, y27.2.2.2.1, y27.2.2.2.2.1, y27.2.2.2.2.2.1, y27.2.2.2.2.2.2.1, y27.2.2.2.2.2.2.2.1, y27.2.2.2.2.2.2.2.2.1, y27.2.2.2.2.2.2.2.2.2.1, r24.1, y27.2.2.2.2.2.2.2.2.2.2.2)).length x0.2.2 fun n28 =>
     Option.bind (((((((((((x0.1.set n2 (x0.2.1, y3.2)).set n4 (y5.1, IntKind.wrap .i64 (x0.2.1 + (1 : Int)), y5.2.2)).set n6 (y7.1, y7.2.1, IntKind.wrap .i64 ((IntKind.wrap .i64 (x0.2.1 + (1 : Int))) + (1 : Int)), y7.2.2.2)).set n8 (y9.1, y9.2.1, y9.2.2.1, IntKind.wrap .i64 ((IntKind.wrap .i64 ((IntKind.wrap .i64 (x0.2.1 + (1 : Int))) + (1 : Int))) + (1 : Int)), y9.2.2.2.2)).set n10 (y11.1, y11.2.1, y11.2.2.1, y11.2.2.2.1, IntKind.wrap .i64 ((IntKind.wrap .i64 ((IntKind.wrap .i64 ((IntKind.wrap .i64 (x0.2.1 + (1 : Int))) + (1 : Int))) + (1 : Int))) + (1 : Int)), y11.2.2.2.2.2)).set n12 (y13.1, y13.2.1, y13.2.2.1, y13.2.2.2.1, y13.2.2.2.2.1, IntKind.wrap .i64 ((IntKind.wrap .i64 ((IntKind.wrap .i64 ((IntKind.wrap .i64 ((IntKind.wrap .i64 (x0.2.1 + (1 : Int))) + (1 : Int))) + (1 : Int))) + (1 : Int))) + (1 : Int)), y13.2.2.2.2.2.2)).set n14 (y15.1, y15.2.1, y15.2.2.1, y15.2.2.2.1, y15.2.2.2.2.1, y15.2.2.2.2.2.1, IntKind.wrap .i64 ((IntKind.wrap .i64 ((IntKind.wrap .i64 ((IntKind.wrap .i64 ((IntKind.wrap .i64 ((IntKind.wrap .i64 (x0.2.1 + (1 : Int))) + (1 : Int))) + (1 : Int))) + (1 : Int))) + (1 : Int))) + (1 : Int)), y15.2.2.2.2.2.2.2)).set n16 (y17.1, y17.2.1, y17.2.2.1, y17.2.2.2.1, y17.2.2.2.2.1, y17.2.2.2.2.2.1, y17.2.2.2.2.2.2.1, decide ((Int.tmod (IntKind.wrap .i64 ((IntKind.wrap .i64 ((IntKind.wrap .i64 ((IntKind.wrap .i64 ((IntKind.wrap .i64 ((IntKind.wrap .i64 ((IntKind.wrap .i64 (x0.2.1 + (1 : Int))) + (1 : Int))) + (1 : Int))) + (1 : Int))) + (1 : Int))) + (1 : Int))) + (1 : Int))) (3 : Int)) = (0 : Int)), y17.2.2.2.2.2.2.2.2)).set n18 (y21.1, y21.2.1, y21.2.2.1, y21.2.2.2.1, y21.2.2.2.2.1, y21.2.2.2.2.2.1, y21.2.2.2.2.2.2.1, y21.2.2.2.2.2.2.2.1, r20.2, y21.2.2.2.2.2.2.2.2.2)).set n22 (y25.1, y25.2.1, y25.2.2.1, y25.2.2.2.1, y25.2.2.2.2.1, y25.2.2.2.2.2.1, y25.2.2.2.2.2.2.1, y25.2.2.2.2.2.2.2.1, y25.2.2.2.2.2.2.2.2.1, r24.2, y25.2.2.2.2.2.2.2.2.2.2)).set n26 (y27.1, y27.2.1, y27.2.2.1, y27.2.2.2.1, y27.2.2.2.2.1, y27.2.2.2.2.2.1, y27.2.2.2.2.2.2.1, y27.2.2.2.2.2.2.2.1, y27.2.2.2.2.2.2.2.2.1, y27.2.2.2.2.2.2.2.2.2.1, r24.1, y27.2.2.2.2.2.2.2.2.2.2.2))[n28]? fun y29 =>
     bnd ((((((((((((x0.1.set n2 (x0.2.1, y3.2)).set n4 (y5.1, IntKind.wrap .i64 (x0.2.1 + (1 : Int)), y5.2.2)).set n6 (y7.1, y7.2.1, IntKind.wrap .i64 ((IntKind.wrap .i64 (x0.2.1 + (1 : Int))) + (1 : Int)), y7.2.2.2)).set n8 (y9.1, y9.2.1, y9.2.2.1, IntKind.wrap .i64 ((IntKind.wrap .i64 ((IntKind.wrap .i64 (x0.2.1 + (1 : Int))) + (1 : Int))) + (1 : Int)), y9.2.2.2.2)).set n10 (y11.1, y11.2.1, y11.2.2.1, y11.2.2.2.1, IntKind.wrap .i64 ((IntKind.wrap .i64 ((IntKind.wrap .i64 ((IntKind.wrap .i64 (x0.2.1 + (1 : Int))) + (1 : Int))) + (1 : Int))) + (1 : Int)), y11.2.2.2.2.2)).set n12 (y13.1, y13.2.1, y13.2.2.1, y13.2.2.2.1, y13.2.2.2.2.1, IntKind.wrap .i64 ((IntKind.wrap .i64 ((IntKind.wrap .i64 ((IntKind.wrap .i64 ((IntKind.wrap .i64 (x0.2.1 + (1 : Int))) + (1 : Int))) + (1 : Int))) + (1 : Int))) + (1 : Int)), y13.2.2.2.2.2.2)).set n14 (y15.1, y15.2.1, y15.2.2.1, y15.2.2.2.1, y15.2.2.2.2.1, y15.2.2.2.2.2.1, IntKind.wrap .i64 ((IntKind.wrap .i64 ((IntKind.wrap .i64 ((IntKind.wrap .i64 ((IntKind.wrap .i64 ((IntKind.wrap .i64 (x0.2.1 + (1 : Int))) + (1 : Int))) + (1 : Int))) + (1 : Int))) + (1 : Int))) + (1 : Int)), y15.2.2.2.2.2.2.2)).set n16 (y17.1, y17.2.1, y17.2.2.1, y17.2.2.2.1, y17.2.2.2.2.1, y17.2.2.2.2.2.1, y17.2.2.2.2.2.2.1, decide ((Int.tmod (IntKind.wrap .i64 ((IntKind.wrap .i64 ((IntKind.wrap .i64 ((IntKind.wrap .i64 ((IntKind.wrap .i64 ((IntKind.wrap .i64 ((IntKind.wrap .i64 (x0.2.1 + (1 : Int))) + (1 : Int))) + (1 : Int))) + (1 : Int))) + (1 : Int))) + (1 : Int))) + (1 : Int))) (3 : Int)) = (0 : Int)), y17.2.2.2.2.2.2.2.2)).set n18 (y21.1, y21.2.1, y21.2.2.1, y21.2.2.2.1, y21.2.2.2.2.1, y21.2.2.2.2.2.1, y21.2.2.2.2.2.2.1, y21.2.2.2.2.2.2.2.1, r20.2, y21.2.2.2.2.2.2.2.2.2)).set n22 (y25.1, y25.2.1, y25.2.2.1, y25.2.2.2.1, y25.2.2.2.2.1, y25.2.2.2.2.2.1, y25.2.2.2.2.2.2.1, y25.2.2.2.2.2.2.2.1, y25.2.2.2.2.2.2.2.2.1, r24.2, y25.2.2.2.2.2.2.2.2.2.2)).set n26 (y27.1, y27.2.1, y27.2.2.1, y27.2.2.2.1, y27.2.2.2.2.1, y27.2.2.2.2.2.1, y27.2.2.2.2.2.2.1, y27.2.2.2.2.2.2.2.1, y27.2.2.2.2.2.2.2.2.1, y27.2.2.2.2.2.2.2.2.2.1, r24.1, y27.2.2.2.2.2.2.2.2.2.2.2)).set n28 (y29.1, y29.2.1, y29.2.2.1, y29.2.2.2.1, y29.2.2.2.2.1, y29.2.2.2.2.2.1, y29.2.2.2.2.2.2.1, y29.2.2.2.2.2.2.2.1, y29.2.2.2.2.2.2.2.2.1, y29.2.2.2.2.2.2.2.2.2.1, y29.2.2.2.2.2.2.2.2.2.2.1, IntKind.wrap .i64 (r24.1 + (1 : Int)), y29.2.2.2.2.2.2.2.2.2.2.2.2)).length x0.2.2 fun n30 =>
     Option.bind ((((((((((((x0.1.set n2 (x0.2.1, y3.2)).set n4 (y5.1, IntKind.wrap .i64 (x0.2.1 + (1 : Int)), y5.2.2)).set n6 (y7.1, y7.2.1, IntKind.wrap .i64 ((IntKind.wrap .i64 (x0.2.1 + (1 : Int))) + (1 : Int)), y7.2.2.2)).set n8 (y9.1, y9.2.1, y9.2.2.1, IntKind.wrap .i64 ((IntKind.wrap .i64 ((IntKind.wrap .i64 (x0.2.1 + (1 : Int))) + (1 : Int))) + (1 : Int)), y9.2.2.2.2)).set n10 (y11.1, y11.2.1, y11.2.2.1, y11.2.2.2.1, IntKind.wrap .i64 ((IntKind.wrap .i64 ((IntKind.wrap .i64 ((IntKind.wrap .i64 (x0.2.1 + (1 : Int))) + (1 : Int))) + (1 : Int))) + (1 : Int)), y11.2.2.2.2.2)).set n12 (y13.1, y13.2.1, y13.2.2.1, y13.2.2.2.1, y13.2.2.2.2.1, IntKind.wrap .i64 ((IntKind.wrap .i64 ((IntKind.wrap .i64 ((IntKind.wrap .i64 ((IntKind.wrap .i64 (x0.2.1 + (1 : Int))) + (1 : Int))) + (1 : Int))) + (1 : Int))) + (1 : Int)), y13.2.2.2.2.2.2)).set n14 (y15.1, y15.2.1, y15.2.2.1, y15.2.2.2.1, y15.2.2.2.2.1, y15.2.2.2.2.2.1, IntKind.wrap .i64 ((IntKind.wrap .i64 ((IntKind.wrap .i64 ((IntKind.wrap .i64 ((IntKind.wrap .i64 ((IntKind.wrap .i64 (x0.2.1 + (1 : Int))) + (1 : Int))) + (1 : Int))) + (1 : Int))) + (1 : Int))) + (1 : Int)), y15.2.2.2.2.2.2.2)).set n16 (y17.1, y17.2.1, y17.2.2.1, y17.2.2.2.1, y17.2.2.2.2.1, y17.2.2.2.2.2.1, y17.2.2.2.2.2.2.1, decide ((Int.tmod (IntKind.wrap .i64 ((IntKind.wrap .i64 ((IntKind.wrap .i64 ((IntKind.wrap .i64 ((IntKind.wrap .i64 ((IntKind.wrap .i64 ((IntKind.wrap .i64 (x0.2.1 + (1 : Int))) + (1 : Int))) + (1 : Int))) + (1 : Int))) + (1 : Int))) + (1 : Int))) + (1 : Int))) (3 : Int)) = (0 : Int)), y17.2.2.2.2.2.2.2.2)).set n18 (y21.1, y21.2.1, y21.2.2.1, y21.2.2.2.1, y21.2.2.2.2.1, y21.2.2.2.2.2.1, y21.2.2.2.2.2.2.1, y21.2.2.2.2.2.2.2.1, r20.2, y21.2.2.2.2.2.2.2.2.2)).set n22 (y25.1, y25.2.1, y25.2.2.1, y25.2.2.2.1, y25.2.2.2.2.1, y25.2.2.2.2.2.1, y25.2.2.2.2.2.2.1, y25.2.2.2.2.2.2.2.1, y25.2.2.2.2.2.2.2.2.1, r24.2, y25.2.2.2.2.2.2.2.2.2.2)).set n26 (y27.1, y27.2.1, y27.2.2.1, y27.2.2.2.1, y27.2.2.2.2.1, y27.2.2.2.2.2.1, y27.2.2.2.2.2.2.1, y27.2.2.2.2.2.2.2.1, y27.2.2.2.2.2.2.2.2.1, y27.2.2.2.2.2.2.2.2.2.1, r24.1, y27.2.2.2.2.2.2.2.2.2.2.2)).set n28 (y29.1, y29.2.1, y29.2.2.1, y29.2.2.2.1, y29.2.2.2.2.1, y29.2.2.2.2.2.1, y29.2.2.2.2.2.2.1, y29.2.2.2.2.2.2.2.1, y29.2.2.2.2.2.2.2.2.1, y29.2.2.2.2.2.2.2.2.2.1, y29.2.2.2.2.2.2.2.2.2.2.1, IntKind.wrap .i64 (r24.1 + (1 : Int)), y29.2.2.2.2.2.2.2.2.2.2.2.2))[n30]? fun y31 =>
     Option.bind (g_lmarkEdgeS (y31.2.2.2.2.2.2.2.2.2.2.2.2.1, IntKind.wrap .i64 ((IntKind.wrap .i64 (r24.1 + (1 : Int))) + (1 : Int)))) fun r32 =>
     Option.bind ((((((((((((x0.1.set n2 (x0.2.1, y3.2)).set n4 (y5.1, IntKind.wrap .i64 (x0.2.1 + (1 : Int)), y5.2.2)).set n6 (y7.1, y7.2.1, IntKind.wrap .i64 ((IntKind.wrap .i64 (x0.2.1 + (1 : Int))) + (1 : Int)), y7.2.2.2)).set n8 (y9.1, y9.2.1, y9.2.2.1, IntKind.wrap .i64 ((IntKind.wrap .i64 ((IntKind.wrap .i64 (x0.2.1 + (1 : Int))) + (1 : Int))) + (1 : Int)), y9.2.2.2.2)).set n10 (y11.1, y11.2.1, y11.2.2.1, y11.2.2.2.1, IntKind.wrap .i64 ((IntKind.wrap .i64 ((IntKind.wrap .i64 ((IntKind.wrap .i64 (x0.2.1 + (1 : Int))) + (1 : Int))) + (1 : Int))) + (1 : Int)), y11.2.2.2.2.2)).set n12 (y13.1, y13.2.1, y13.2.2.1, y13.2.2.2.1, y13.2.2.2.2.1, IntKind.wrap .i64 ((IntKind.wrap .i64 ((IntKind.wrap .i64 ((IntKind.wrap .i64 ((IntKind.wrap .i64 (x0.2.1 + (1 : Int))) + (1 : Int))) + (1 : Int))) + (1 : Int))) + (1 : Int)), y13.2.2.2.2.2.2)).set n14 (y15.1, y15.2.1, y15.2.2.1, y15.2.2.2.1, y15.2.2.2.2.1, y15.2.2.2.2.2.1, IntKind.wrap .i64 ((IntKind.wrap .i64 ((IntKind.wrap .i64 ((IntKind.wrap .i64 ((IntKind.wrap .i64 ((IntKind.wrap .i64 (x0.2.1 + (1 : Int))) + (1 : Int))) + (1 : Int))) + (1 : Int))) + (1 : Int))) + (1 : Int)), y15.2.2.2.2.2.2.2)).set n16 (y17.1, y17.2.1, y17.2.2.1, y17.2.2.2.1, y17.2.2.2.2.1, y17.2.2.2.2.2.1, y17.2.2.2.2.2.2.1, decide ((Int.tmod (IntKind.wrap .i64 ((IntKind.wrap .i64 ((IntKind.wrap .i64 ((IntKind.wrap .i64 ((IntKind.wrap .i64 ((IntKind.wrap .i64 ((IntKind.wrap .i64 (x0.2.1 + (1 : Int))) + (1 : Int))) + (1 : Int))) + (1 : Int))) + (1 : Int))) + (1 : Int))) + (1 : Int))) (3 : Int)) = (0 : Int)), y17.2.2.2.2.2.2.2.2)).set n18 (y21.1, y21.2.1, y21.2.2.1, y21.2.2.2.1, y21.2.2.2.2.1, y21.2.2.2.2.2.1, y21.2.2.2.2.2.2.1, y21.2.2.2.2.2.2.2.1, r20.2, y21.2.2.2.2.2.2.2.2.2)).set n22 (y25.1, y25.2.1, y25.2.2.1, y25.2.2.2.1, y25.2.2.2.2.1, y25.2.2.2.2.2.1, y25.2.2.2.2.2.2.1, y25.2.2.2.2.2.2.2.1, y25.2.2.2.2.2.2.2.2.1, r24.2, y25.2.2.2.2.2.2.2.2.2.2)).set n26 (y27.1, y27.2.1, y27.2.2.1, y27.2.2.2.1, y27.2.2.2.2.1, y27.2.2.2.2.2.1, y27.2.2.2.2.2.2.1, y27.2.2.2.2.2.2.2.1, y27.2.2.2.2.2.2.2.2.1, y27.2.2.2.2.2.2.2.2.2.1, r24.1, y27.2.2.2.2.2.2.2.2.2.2.2)).set n28 (y29.1, y29.2.1, y29.2.2.1, y29.2.2.2.1, y29.2.2.2.2.1, y29.2.2.2.2.2.1, y29.2.2.2.2.2.2.1, y29.2.2.2.2.2.2.2.1, y29.2.2.2.2.2.2.2.2.1, y29.2.2.2.2.2.2.2.2.2.1, y29.2.2.2.2.2.2.2.2.2.2.1, IntKind.wrap .i64 (r24.1 + (1 : Int)), y29.2.2.2.2.2.2.2.2.2.2.2.2))[n30]? fun y33 =>
     bnd (((((((((((((x0.1.set n2 (x0.2.1, y3.2)).set n4 (y5.1, IntKind.wrap .i64 (x0.2.1 + (1 : Int)), y5.2.2)).set n6 (y7.1, y7.2.1, IntKind.wrap .i64 ((IntKind.wrap .i64 (x0.2.1 + (1 : Int))) + (1 : Int)), y7.2.2.2)).set n8 (y9.1, y9.2.1, y9.2.2.1, IntKind.wrap .i64 ((IntKind.wrap .i64 ((IntKind.wrap .i64 (x0.2.1 + (1 : Int))) + (1 : Int))) + (1 : Int)), y9.2.2.2.2)).set n10 (y11.1, y11.2.1, y11.2.2.1, y11.2.2.2.1, IntKind.wrap .i64 ((IntKind.wrap .i64 ((IntKind.wrap .i64 ((IntKind.wrap .i64 (x0.2.1 + (1 : Int))) + (1 : Int))) + (1 : Int))) + (1 : Int)), y11.2.2.2.2.2)).set n12 (y13.1, y13.2.1, y13.2.2.1, y13.2.2.2.1, y13.2.2.2.2.1, IntKind.wrap .i64 ((IntKind.wrap .i64 ((IntKind.wrap .i64 ((IntKind.wrap .i64 ((IntKind.wrap .i64 (x0.2.1 + (1 : Int))) + (1 : Int))) + (1 : Int))) + (1 : Int))) + (1 : Int)), y13.2.2.2.2.2.2)).set n14 (y15.1, y15.2.1, y15.2.2.1, y15.2.2.2.1, y15.2.2.2.2.1, y15.2.2.2.2.2.1, IntKind.wrap .i64 ((IntKind.wrap .i64 ((IntKind.wrap .i64 ((IntKind.wrap .i64 ((IntKind.wrap .i64 ((IntKind.wrap .i64 (x0.2.1 + (1 : Int))) + (1 : Int))) + (1 : Int))) + (1 : Int))) + (1 : Int))) + (1 : Int)), y15.2.2.2.2.2.2.2)).set n16 (y17.1, y17.2.1, y17.2.2.1, y17.2.2.2.1, y17.2.2.2.2.1, y17.2.2.2.2.2.1, y17.2.2.2.2.2.2.1, decide ((Int.tmod (IntKind.wrap .i64 ((IntKind.wrap .i64 ((IntKind.wrap .i64 ((IntKind.wrap .i64 ((IntKind.wrap .i64 ((IntKind.wrap .i64 ((IntKind.wrap .i64 (x0.2.1 + (1 : Int))) + (1 : Int))) + (1 : Int))) + (1 : Int))) + (1 : Int))) + (1 : Int))) + (1 : Int))) (3 : Int)) = (0 : Int)), y17.2.2.2.2.2.2.2.2)).set n18 (y21.1, y21.2.1, y21.2.2.1, y21.2.2.2.1, y21.2.2.2.2.1, y21.2.2.2.2.2.1, y21.2.2.2.2.2.2.1, y21.2.2.2.2.2.2.2.1, r20.2, y21.2.2.2.2.2.2.2.2.2)).set n22 (y25.1, y25.2.1, y25.2.2.1, y25.2.2.2.1, y25.2.2.2.2.1, y25.2.2.2.2.2.1, y25.2.2.2.2.2.2.1, y25.2.2.2.2.2.2.2.1, y25.2.2.2.2.2.2.2.2.1, r24.2, y25.2.2.2.2.2.2.2.2.2.2)).set n26 (y27.1, y27.2.1, y27.2.2.1, y27.2.2.2.1, y27.2.2.2.2.1, y27.2.2.2.2.2.1, y27.2.2.2.2.2.2.1, y27.2.2.2.2.2.2.2.1, y27.2.2.2.2.2.2.2.2.1, y27.2.2.2.2.2.2.2.2.2.1, r24.1, y27.2.2.2.2.2.2.2.2.2.2.2)).set n28 (y29.1, y29.2.1, y29.2.2.1, y29.2.2.2.1, y29.2.2.2.2.1, y29.2.2.2.2.2.1, y29.2.2.2.2.2.2.1, y29.2.2.2.2.2.2.2.1, y29.2.2.2.2.2.2.2.2.1, y29.2.2.2.2.2.2.2.2.2.1, y29.2.2.2.2.2.2.2.2.2.2.1, IntKind.wrap .i64 (r24.1 + (1 : Int)), y29.2.2.2.2.2.2.2.2.2.2.2.2)).set n30 (y33.1, y33.2.1, y33.2.2.1, y33.2.2.2.1, y33.2.2.2.2.1, y33.2.2.2.2.2.1, y33.2.2.2.2.2.2.1, y33.2.2.2.2.2.2.2.1, y33.2.2.2.2.2.2.2.2.1, y33.2.2.2.2.2.2.2.2.2.1, y33.2.2.2.2.2.2.2.2.2.2.1, y33.2.2.2.2.2.2.2.2.2.2.2.1, r32.2, y33.2.2.2.2.2.2.2.2.2.2.2.2.2)).length x0.2.2 fun n34 =>
     Option.bind (((((((((((((x0.1.set n2 (x0.2.1, y3.2)).set n4 (y5.1, IntKind.wrap .i64 (x0.2.1 + (1 : Int)), y5.2.2)).set n6 (y7.1, y7.2.1, IntKind.wrap .i64 ((IntKind.wrap .i64 (x0.2.1 + (1 : Int))) + (1 : Int)), y7.2.2.2)).set n8 (y9.1, y9.2.1, y9.2.2.1, IntKind.wrap .i64 ((IntKind.wrap .i64 ((IntKind.wrap .i64 (x0.2.1 + (1 : Int))) + (1 : Int))) + (1 : Int)), y9.2.2.2.2)).set n10 (y11.1, y11.2.1, y11.2.2.1, y11.2.2.2.1, IntKind.wrap .i64 ((IntKind.wrap .i64 ((IntKind.wrap .i64 ((IntKind.wrap .i64 (x0.2.1 + (1 : Int))) + (1 : Int))) + (1 : Int))) + (1 : Int)), y11.2.2.2.2.2)).set n12 (y13.1, y13.2.1, y13.2.2.1, y13.2.2.2.1, y13.2.2.2.2.1, IntKind.wrap .i64 ((IntKind.wrap .i64 ((IntKind.wrap .i64 ((IntKind.wrap .i64 ((IntKind.wrap .i64 (x0.2.1 + (1 : Int))) + (1 : Int))) + (1 : Int))) + (1 : Int))) + (1 : Int)), y13.2.2.2.2.2.2)).set n14 (y15.1, y15.2.1, y15.2.2.1, y15.2.2.2.1, y15.2.2.2.2.1, y15.2.2.2.2.2.1, IntKind.wrap .i64 ((IntKind.wrap .i64 ((IntKind.wrap .i64 ((IntKind.wrap .i64 ((IntKind.wrap .i64 ((IntKind.wrap .i64 (x0.2.1 + (1 : Int))) + (1 : Int))) + (1 : Int))) + (1 : Int))) + (1 : Int))) + (1 : Int)), y15.2.2.2.2.2.2.2)).set n16 (y17.1, y17.2.1, y17.2.2.1, y17.2.2.2.1, y17.2.2.2.2.1, y17.2.2.2.2.2.1, y17.2.2.2.2.2.2.1, decide ((Int.tmod (IntKind.wrap .i64 ((IntKind.wrap .i64 ((IntKind.wrap .i64 ((IntKind.wrap .i64 ((IntKind.wrap .i64 ((IntKind.wrap .i64 ((IntKind.wrap .i64 (x0.2.1 + (1 : Int))) + (1 : Int))) + (1 : Int))) + (1 : Int))) + (1 : Int))) + (1 : Int))) + (1 : Int))) (3 : Int)) = (0 : Int)), y17.2.2.2.2.2.2.2.2)).set n18 (y21.1, y21.2.1, y21.2.2.1, y21.2.2.2.1, y21.2.2.2.2.1, y21.2.2.2.2.2.1, y21.2.2.2.2.2.2.1, y21.2.2.2.2.2.2.2.1, r20.2, y21.2.2.2.2.2.2.2.2.2)).set n22 (y25.1, y25.2.1, y25.2.2.1, y25.2.2.2.1, y25.2.2.2.2.1, y25.2.2.2.2.2.1, y25.2.2.2.2.2.2.1, y25.2.2.2.2.2.2.2.1, y25.2.2.2.2.2.2.2.2.1, r24.2, y25.2.2.2.2.2.2.2.2.2.2)).set n26 (y27.1, y27.2.1, y27.2.2.1, y27.2.2.2.1, y27.2.2.2.2.1, y27.2.2.2.2.2.1, y27.2.2.2.2.2.2.1, y27.2.2.2.2.2.2.2.1, y27.2.2.2.2.2.2.2.2.1, y27.2.2.2.2.2.2.2.2.2.1, r24.1, y27.2.2.2.2.2.2.2.2.2.2.2)).set n28 (y29.1, y29.2.1, y29.2.2.1, y29.2.2.2.1, y29.2.2.2.2.1, y29.2.2.2.2.2.1, y29.2.2.2.2.2.2.1, y29.2.2.2.2.2.2.2.1, y29.2.2.2.2.2.2.2.2.1, y29.2.2.2.2.2.2.2.2.2.1, y29.2.2.2.2.2.2.2.2.2.2.1, IntKind.wrap .i64 (r24.1 + (1 : Int)), y29.2.2.2.2.2.2.2.2.2.2.2.2)).set n30 (y33.1, y33.2.1, y33.2.2.1, y33.2.2.2.1, y33.2.2.2.2.1, y33.2.2.2.2.2.1, y33.2.2.2.2.2.2.1, y33.2.2.2.2.2.2.2.1, y33.2.2.2.2.2.2.2.2.1, y33.2.2.2.2.2.2.2.2.2.1, y33.2.2.2.2.2.2.2.2.2.2.1, y33.2.2.2.2.2.2.2.2.2.2.2.1, r32.2, y33.2.2.2.2.2.2.2.2.2.2.2.2.2))[n34]? fun y35 =>
     self1 ((((((((((((((x0.1.set n2 (x0.2.1, y3.2)).set n4 (y5.1, IntKind.wrap .i64 (x0.2.1 + (1 : Int)), y5.2.2)).set n6 (y7.1, y7.2.1, IntKind.wrap .i64 ((IntKind.wrap .i64 (x0.2.1 + (1 : Int))) + (1 : Int)), y7.2.2.2)).set n8 (y9.1, y9.2.1, y9.2.2.1, IntKind.wrap .i64 ((IntKind.wrap .i64 ((IntKind.wrap .i64 (x0.2.1 + (1 : Int))) + (1 : Int))) + (1 : Int)), y9.2.2.2.2)).set n10 (y11.1, y11.2.1, y11.2.2.1, y11.2.2.2.1, IntKind.wrap .i64 ((IntKind.wrap .i64 ((IntKind.wrap .i64 ((IntKind.wrap .i64 (x0.2.1 + (1 : Int))) + (1 : Int))) + (1 : Int))) + (1 : Int)), y11.2.2.2.2.2)).set n12 (y13.1, y13.2.1, y13.2.2.1, y13.2.2.2.1, y13.2.2.2.2.1, IntKind.wrap .i64 ((IntKind.wrap .i64 ((IntKind.wrap .i64 ((IntKind.wrap .i64 ((IntKind.wrap .i64 (x0.2.1 + (1 : Int))) + (1 : Int))) + (1 : Int))) + (1 : Int))) + (1 : Int)), y13.2.2.2.2.2.2)).set n14 (y15.1, y15.2.1, y15.2.2.1, y15.2.2.2.1, y15.2.2.2.2.1, y15.2.2.2.2.2.1, IntKind.wrap .i64 ((IntKind.wrap .i64 ((IntKind.wrap .i64 ((IntKind.wrap .i64 ((IntKind.wrap .i64 ((IntKind.wrap .i64 (x0.2.1 + (1 : Int))) + (1 : Int))) + (1 : Int))) + (1 : Int))) + (1 : Int))) + (1 : Int)), y15.2.2.2.2.2.2.2)).set n16 (y17.1, y17.2.1, y17.2.2.1, y17.2.2.2.1, y17.2.2.2.2.1, y17.2.2.2.2.2.1, y17.2.2.2.2.2.2.1, decide ((Int.tmod (IntKind.wrap .i64 ((IntKind.wrap .i64 ((IntKind.wrap .i64 ((IntKind.wrap .i64 ((IntKind.wrap .i64 ((IntKind.wrap .i64 ((IntKind.wrap .i64 (x0.2.1 + (1 : Int))) + (1 : Int))) + (1 : Int))) + (1 : Int))) + (1 : Int))) + (1 : Int))) + (1 : Int))) (3 : Int)) = (0 : Int)), y17.2.2.2.2.2.2.2.2)).set n18 (y21.1, y21.2.1, y21.2.2.1, y21.2.2.2.1, y21.2.2.2.2.1, y21.2.2.2.2.2.1, y21.2.2.2.2.2.2.1, y21.2.2.2.2.2.2.2.1, r20.2, y21.2.2.2.2.2.2.2.2.2)).set n22 (y25.1, y25.2.1, y25.2.2.1, y25.2.2.2.1, y25.2.2.2.2.1, y25.2.2.2.2.2.1, y25.2.2.2.2.2.2.1, y25.2.2.2.2.2.2.2.1, y25.2.2.2.2.2.2.2.2.1, r24.2, y25.2.2.2.2.2.2.2.2.2.2)).set n26 (y27.1, y27.2.1, y27.2.2.1, y27.2.2.2.1, y27.2.2.2.2.1, y27.2.2.2.2.2.1, y27.2.2.2.2.2.2.1, y27.2.2.2.2.2.2.2.1, y27.2.2.2.2.2.2.2.2.1, y27.2.2.2.2.2.2.2.2.2.1, r24.1, y27.2.2.2.2.2.2.2.2.2.2.2)).set n28 (y29.1, y29.2.1, y29.2.2.1, y29.2.2.2.1, y29.2.2.2.2.1, y29.2.2.2.2.2.1, y29.2.2.2.2.2.2.1, y29.2.2.2.2.2.2.2.1, y29.2.2.2.2.2.2.2.2.1, y29.2.2.2.2.2.2.2.2.2.1, y29.2.2.2.2.2.2.2.2.2.2.1, IntKind.wrap .i64 (r24.1 + (1 : Int)), y29.2.2.2.2.2.2.2.2.2.2.2.2)).set n30 (y33.1, y33.2.1, y33.2.2.1, y33.2.2.2.1, y33.2.2.2.2.1, y33.2.2.2.2.2.1, y33.2.2.2.2.2.2.1, y33.2.2.2.2.2.2.2.1, y33.2.2.2.2.2.2.2.2.1, y33.2.2.2.2.2.2.2.2.2.1, y33.2.2.2.2.2.2.2.2.2.2.1, y33.2.2.2.2.2.2.2.2.2.2.2.1, r32.2, y33.2.2.2.2.2.2.2.2.2.2.2.2.2)).set n34 (y35.1, y35.2.1, y35.2.2.1, y35.2.2.2.1, y35.2.2.2.2.1, y35.2.2.2.2.2.1, y35.2.2.2.2.2.2.1, y35.2.2.2.2.2.2.2.1, y35.2.2.2.2.2.2.2.2.1, y35.2.2.2.2.2.2.2.2.2.1, y35.2.2.2.2.2.2.2.2.2.2.1, y35.2.2.2.2.2.2.2.2.2.2.2.1, y35.2.2.2.2.2.2.2.2.2.2.2.2.1, r32.1), IntKind.wrap .i64 (r32.1 + (1 : Int)), IntKind.wrap .i64 (x0.2.2 + (1 : Int)))
    else some (x0.1, x0.2.1)) (a0, a1, (0 : Int)) : Option ((List (Int × Int × Int × Int × Int × Int × Int × Bool × (List (Int × Int)) × (List (Int)) × Int × Int × (List (Int × Int)) × Int)) × Int)) fun x36 =>
  some (x36.2, x36.1) := by kernel_rfl
def c_lheldEdgeS : TC :=
 (.seq (.rg [o1 4 (.lit [.i .i64] [.int .i64 (0)])])
 (.seq (.join [⟨1, [.i .i64], false⟩] 1073741810 (some [⟨4, [.i .i64], false⟩]) (.seq (.rg [o1 5 (.lit [.i .i64] [.int .i64 (0)])])
 (.block 0 (.loop [⟨1, [.i .i64], false⟩, ⟨5, [.i .i64], false⟩] 1073741810
  (.seq (.seq (.rg [o1 6 (.copy 5),
    o1 7 (.copy 0),
    o1 8 (.len 7),
    o1 9 (.data (.bin .lss) [.t 6, .t 8])])
  (.cond (.t 9)
   .skip
   (.exit 0)))
  (.seq (.block 1 (.seq (.seq (.rg [o1 12 (.copy 0),
    o1 13 (.copy 5),
    o1 14 (.index 12 (.t 13)),
    o1 15 (.idx (.t 14)),
    o1 16 (.load 12 [(0, 2)] 0 (.t 15) 1 false),
    o1 17 (.copy 1),
    o1 18 (.data (.bin .neq) [.t 16, .t 17])])
  (.cond (.t 18)
   (.seq (.rg [o1 4 (.lit [.i .i64] [.int .i64 (-1)])])
   .ret)
   .skip))
  (.seq (.rg [o1 19 (.copy 1),
    o1 20 (.data (.bin .add) [.t 19, .c (.int .i64 (1))]),
    o1 1 (.copy 20)])
  (.seq (.seq (.rg [o1 21 (.copy 0),
    o1 22 (.copy 5),
    o1 23 (.index 21 (.t 22)),
    o1 24 (.idx (.t 23)),
    o1 25 (.load 21 [(0, 2)] 1 (.t 24) 1 false),
    o1 26 (.copy 1),
    o1 27 (.data (.bin .neq) [.t 25, .t 26])])
  (.cond (.t 27)
   (.seq (.rg [o1 4 (.lit [.i .i64] [.int .i64 (-1)])])
   .ret)
   .skip))
  (.rg [o1 28 (.copy 1),
    o1 29 (.data (.bin .add) [.t 28, .c (.int .i64 (1))]),
    o1 1 (.copy 29)])))))
  (.rg [o1 10 (.copy 5),
    o1 11 (.data (.bin .add) [.t 10, .c (.int .i64 (1))]),
    o1 5 (.copy 11)])))))))
 (.seq (.rg [o1 30 (.copy 1),
   o1 4 (.copy 30)])
 .ret)))
def s_lheldEdgeS : Sig := ⟨[.rd false [.sl (.own none) [.d, .d]], .rd false [.d]], (.one false [.d])⟩
noncomputable def E_lheldEdgeS : TEnv := envOf []
noncomputable def f_lheldEdgeS (n : Nat) : (List (Int × Int)) × Int → Option ((Int) × Unit) := runFn n E_lheldEdgeS c_lheldEdgeS [[.sl [.i .i64, .i .i64]], [.i .i64]] [.i .i64] [] [4] .no
noncomputable def g_lheldEdgeS := f_lheldEdgeS BIG
noncomputable def p_lheldEdgeS : TSp := ⟨s_lheldEdgeS, [[.sl [.i .i64, .i .i64]], [.i .i64]], [.i .i64], [], Ou.j .no, g_lheldEdgeS⟩
theorem k_lheldEdgeS : chkW PG E_lheldEdgeS 148 s_lheldEdgeS (c_lheldEdgeS.ht 31) .no = some (c_lheldEdgeS.wc E_lheldEdgeS, [4]) := by kernel_rfl
theorem ok_lheldEdgeS : p_lheldEdgeS.Ok PG 148 := mkOk (env_nil PG) k_lheldEdgeS (by kernel_rfl)
theorem e_lheldEdgeS (n : Nat) (a0 : List (Int × Int)) (a1 : Int) : f_lheldEdgeS n (a0, a1) =
  Option.bind (loopT n (X := Int × Int) (B := (Int) ⊕ (Int)) (fun self1 x0 =>
    bif decide (x0.2 < (a0.length : Int)) then
     bnd a0.length x0.2 fun n2 =>
     Option.bind a0[n2]? fun y3 =>
     bif !decide (y3.1 = x0.1) then
      some (Sum.inr (-1 : Int))
     else bnd a0.length x0.2 fun n4 =>
     Option.bind a0[n4]? fun y5 =>
     bif !decide (y5.2 = (IntKind.wrap .i64 (x0.1 + (1 : Int)))) then
      some (Sum.inr (-1 : Int))
     else self1 (IntKind.wrap .i64 ((IntKind.wrap .i64 (x0.1 + (1 : Int))) + (1 : Int)), IntKind.wrap .i64 (x0.2 + (1 : Int)))
    else some (Sum.inl x0.1)) (a1, (0 : Int)) : Option ((Int) ⊕ (Int))) fun y => match y with
  | .inl x6 =>
   some (x6, ())
  | .inr x6 =>
   some (x6, ()) := by kernel_rfl
def c_lheldIntS : TC :=
 (.seq (.rg [o1 4 (.lit [.i .i64] [.int .i64 (0)])])
 (.seq (.join [⟨1, [.i .i64], false⟩] 1048562 (some [⟨4, [.i .i64], false⟩]) (.seq (.rg [o1 5 (.lit [.i .i64] [.int .i64 (0)])])
 (.block 0 (.loop [⟨1, [.i .i64], false⟩, ⟨5, [.i .i64], false⟩] 1048562
  (.seq (.seq (.rg [o1 6 (.copy 5),
    o1 7 (.copy 0),
    o1 8 (.len 7),
    o1 9 (.data (.bin .lss) [.t 6, .t 8])])
  (.cond (.t 9)
   .skip
   (.exit 0)))
  (.seq (.block 1 (.seq (.seq (.rg [o1 12 (.copy 0),
    o1 13 (.copy 5),
    o1 14 (.index 12 (.t 13)),
    o1 15 (.load 12 [(0, 1)] 0 (.t 14) 1 false),
    o1 16 (.copy 1),
    o1 17 (.data (.bin .neq) [.t 15, .t 16])])
  (.cond (.t 17)
   (.seq (.rg [o1 4 (.lit [.i .i64] [.int .i64 (-1)])])
   .ret)
   .skip))
  (.rg [o1 18 (.copy 1),
    o1 19 (.data (.bin .add) [.t 18, .c (.int .i64 (1))]),
    o1 1 (.copy 19)])))
  (.rg [o1 10 (.copy 5),
    o1 11 (.data (.bin .add) [.t 10, .c (.int .i64 (1))]),
    o1 5 (.copy 11)])))))))
 (.seq (.rg [o1 20 (.copy 1),
   o1 4 (.copy 20)])
 .ret)))
def s_lheldIntS : Sig := ⟨[.rd false [.sl (.own none) [.d]], .rd false [.d]], (.one false [.d])⟩
noncomputable def E_lheldIntS : TEnv := envOf []
noncomputable def f_lheldIntS (n : Nat) : List (Int) × Int → Option ((Int) × Unit) := runFn n E_lheldIntS c_lheldIntS [[.sl [.i .i64]], [.i .i64]] [.i .i64] [] [4] .no
noncomputable def g_lheldIntS := f_lheldIntS BIG
noncomputable def p_lheldIntS : TSp := ⟨s_lheldIntS, [[.sl [.i .i64]], [.i .i64]], [.i .i64], [], Ou.j .no, g_lheldIntS⟩
theorem k_lheldIntS : chkW PG E_lheldIntS 149 s_lheldIntS (c_lheldIntS.ht 21) .no = some (c_lheldIntS.wc E_lheldIntS, [4]) := by kernel_rfl
theorem ok_lheldIntS : p_lheldIntS.Ok PG 149 := mkOk (env_nil PG) k_lheldIntS (by kernel_rfl)
theorem e_lheldIntS (n : Nat) (a0 : List (Int)) (a1 : Int) : f_lheldIntS n (a0, a1) =
  Option.bind (loopT n (X := Int × Int) (B := (Int) ⊕ (Int)) (fun self1 x0 =>
    bif decide (x0.2 < (a0.length : Int)) then
     bnd a0.length x0.2 fun n2 =>
     Option.bind a0[n2]? fun y3 =>
     bif !decide (y3 = x0.1) then
      some (Sum.inr (-1 : Int))
     else self1 (IntKind.wrap .i64 (x0.1 + (1 : Int)), IntKind.wrap .i64 (x0.2 + (1 : Int)))
    else some (Sum.inl x0.1)) (a1, (0 : Int)) : Option ((Int) ⊕ (Int))) fun y => match y with
  | .inl x4 =>
   some (x4, ())
  | .inr x4 =>
   some (x4, ()) := by kernel_rfl
def c_lheldRecS : TC :=
 (.seq (.rg [o1 4 (.lit [.i .i64] [.int .i64 (0)])])
 (.seq (.join [⟨1, [.i .i64], false⟩] 5708990770823839524233143877797980545530986482 (some [⟨4, [.i .i64], false⟩]) (.seq (.rg [o1 5 (.lit [.i .i64] [.int .i64 (0)])])
 (.block 0 (.loop [⟨1, [.i .i64], false⟩, ⟨5, [.i .i64], false⟩] 5708990770823839524233143877797980545530986482
  (.seq (.seq (.rg [o1 6 (.copy 5),
    o1 7 (.copy 0),
    o1 8 (.len 7),
    o1 9 (.data (.bin .lss) [.t 6, .t 8])])
  (.cond (.t 9)
   .skip
   (.exit 0)))
  (.seq (.block 1 (.seq (.seq (.rg [o1 12 (.copy 0),
    o1 13 (.copy 5),
    o1 14 (.index 12 (.t 13)),
    o1 15 (.idx (.t 14)),
    o1 16 (.load 12 [(0, 14)] 0 (.t 15) 1 false),
    o1 17 (.copy 1),
    o1 18 (.data (.bin .neq) [.t 16, .t 17])])
  (.cond (.t 18)
   (.seq (.rg [o1 4 (.lit [.i .i64] [.int .i64 (-1)])])
   .ret)
   .skip))
  (.seq (.rg [o1 19 (.copy 1),
    o1 20 (.data (.bin .add) [.t 19, .c (.int .i64 (1))]),
    o1 1 (.copy 20)])
  (.seq (.seq (.rg [o1 21 (.copy 0),
    o1 22 (.copy 5),
    o1 23 (.index 21 (.t 22)),
    o1 24 (.idx (.t 23)),
    o1 25 (.idx (.t 24)),
    o1 26 (.load 21 [(0, 14)] 1 (.t 25) 1 false),
    o1 27 (.copy 1),
    o1 28 (.data (.bin .neq) [.t 26, .t 27])])
  (.cond (.t 28)
   (.seq (.rg [o1 4 (.lit [.i .i64] [.int .i64 (-1)])])
   .ret)
   .skip))
  (.seq (.rg [o1 29 (.copy 1),
    o1 30 (.data (.bin .add) [.t 29, .c (.int .i64 (1))]),
    o1 1 (.copy 30)])
  (.seq (.seq (.rg [o1 31 (.copy 0),
    o1 32 (.copy 5),
    o1 33 (.index 31 (.t 32)),
    o1 34 (.idx (.t 33)),
    o1 35 (.idx (.t 34)),
    o1 36 (.load 31 [(0, 14)] 2 (.t 35) 1 false),
    o1 37 (.copy 1),
    o1 38 (.data (.bin .neq) [.t 36, .t 37])])
  (.cond (.t 38)
   (.seq (.rg [o1 4 (.lit [.i .i64] [.int .i64 (-1)])])
   .ret)
   .skip))
  (.seq (.rg [o1 39 (.copy 1),
    o1 40 (.data (.bin .add) [.t 39, .c (.int .i64 (1))]),
    o1 1 (.copy 40)])
  (.seq (.seq (.rg [o1 41 (.copy 0),
    o1 42 (.copy 5),
    o1 43 (.index 41 (.t 42)),
    o1 44 (.idx (.t 43)),
    o1 45 (.idx (.t 44)),
    o1 46 (.load 41 [(0, 14)] 3 (.t 45) 1 false),
    o1 47 (.copy 1),
    o1 48 (.data (.bin .neq) [.t 46, .t 47])])
  (.cond (.t 48)
   (.seq (.rg [o1 4 (.lit [.i .i64] [.int .i64 (-1)])])
   .ret)
   .skip))
  (.seq (.rg [o1 49 (.copy 1),
    o1 50 (.data (.bin .add) [.t 49, .c (.int .i64 (1))]),
    o1 1 (.copy 50)])
  (.seq (.seq (.rg [o1 51 (.copy 0),
    o1 52 (.copy 5),
    o1 53 (.index 51 (.t 52)),
    o1 54 (.idx (.t 53)),
    o1 55 (.idx (.t 54)),
    o1 56 (.load 51 [(0, 14)] 4 (.t 55) 1 false),
    o1 57 (.copy 1),
    o1 58 (.data (.bin .neq) [.t 56, .t 57])])
  (.cond (.t 58)
   (.seq (.rg [o1 4 (.lit [.i .i64] [.int .i64 (-1)])])
   .ret)
   .skip))
  (.seq (.rg [o1 59 (.copy 1),
    o1 60 (.data (.bin .add) [.t 59, .c (.int .i64 (1))]),
    o1 1 (.copy 60)])
  (.seq (.seq (.rg [o1 61 (.copy 0),
    o1 62 (.copy 5),
    o1 63 (.index 61 (.t 62)),
    o1 64 (.idx (.t 63)),
    o1 65 (.load 61 [(0, 14)] 5 (.t 64) 1 false),
    o1 66 (.copy 1),
    o1 67 (.data (.bin .neq) [.t 65, .t 66])])
  (.cond (.t 67)
   (.seq (.rg [o1 4 (.lit [.i .i64] [.int .i64 (-1)])])
   .ret)
   .skip))
  (.seq (.rg [o1 68 (.copy 1),
    o1 69 (.data (.bin .add) [.t 68, .c (.int .i64 (1))]),
    o1 1 (.copy 69)])
  (.seq (.seq (.rg [o1 70 (.copy 0),
    o1 71 (.copy 5),
    o1 72 (.index 70 (.t 71)),
    o1 73 (.idx (.t 72)),
    o1 74 (.idx (.t 73)),
    o1 75 (.load 70 [(0, 14)] 6 (.t 74) 1 false),
    o1 76 (.copy 1),
    o1 77 (.data (.bin .neq) [.t 75, .t 76])])
  (.cond (.t 77)
   (.seq (.rg [o1 4 (.lit [.i .i64] [.int .i64 (-1)])])
   .ret)
   .skip))
  (.seq (.rg [o1 78 (.copy 1),
    o1 79 (.data (.bin .add) [.t 78, .c (.int .i64 (1))]),
    o1 1 (.copy 79)])
  (.seq (.seq (.rg [o1 80 (.copy 0),
    o1 81 (.copy 5),
    o1 82 (.index 80 (.t 81)),
    o1 83 (.idx (.t 82)),
    o1 84 (.idx (.t 83)),
    o1 85 (.load 80 [(0, 14)] 7 (.t 84) 1 false),
    o1 86 (.copy 1),
    o1 87 (.data (.bin .rem) [.t 86, .c (.int .i64 (3))]),
    o1 88 (.data (.bin .eql) [.t 87, .c (.int .i64 (0))]),
    o1 89 (.data (.beq true) [.t 85, .t 88])])
  (.cond (.t 89)
   (.seq (.rg [o1 4 (.lit [.i .i64] [.int .i64 (-1)])])
   .ret)
   .skip))
  (.seq (.rg [o1 90 (.copy 1),
    o1 91 (.data (.bin .add) [.t 90, .c (.int .i64 (1))]),
    o1 1 (.copy 91)])
  (.seq (.rg [o1 92 (.copy 0),
    o1 93 (.copy 5),
    o1 94 (.index 92 (.t 93)),
    o1 95 (.idx (.t 94)),
    o1 96 (.idx (.t 95)),
    o1 97 (.load 92 [(0, 14)] 8 (.t 96) 1 false),
    o1 98 (.copy 1),
    o3 99 148 [.t 97, .t 98],
    o1 1 (.copy 99)])
  (.seq (.seq (.rg [o1 100 (.copy 1),
    o1 101 (.data (.bin .lss) [.t 100, .c (.int .i64 (0))])])
  (.cond (.t 101)
   (.seq (.rg [o1 4 (.lit [.i .i64] [.int .i64 (-1)])])
   .ret)
   .skip))
  (.seq (.rg [o1 102 (.copy 0),
    o1 103 (.copy 5),
    o1 104 (.index 102 (.t 103)),
    o1 105 (.idx (.t 104)),
    o1 106 (.idx (.t 105)),
    o1 107 (.load 102 [(0, 14)] 9 (.t 106) 1 false),
    o1 108 (.copy 1),
    o3 109 149 [.t 107, .t 108],
    o1 1 (.copy 109)])
  (.seq (.seq (.rg [o1 110 (.copy 1),
    o1 111 (.data (.bin .lss) [.t 110, .c (.int .i64 (0))])])
  (.cond (.t 111)
   (.seq (.rg [o1 4 (.lit [.i .i64] [.int .i64 (-1)])])
   .ret)
   .skip))
  (.seq (.seq (.rg [o1 112 (.copy 0),
    o1 113 (.copy 5),
    o1 114 (.index 112 (.t 113)),
    o1 115 (.idx (.t 114)),
    o1 116 (.idx (.t 115)),
    o1 117 (.load 112 [(0, 14)] 10 (.t 116) 1 false),
    o1 118 (.copy 1),
    o1 119 (.data (.bin .neq) [.t 117, .t 118])])
  (.cond (.t 119)
   (.seq (.rg [o1 4 (.lit [.i .i64] [.int .i64 (-1)])])
   .ret)
   .skip))
  (.seq (.rg [o1 120 (.copy 1),
    o1 121 (.data (.bin .add) [.t 120, .c (.int .i64 (1))]),
    o1 1 (.copy 121)])
  (.seq (.seq (.rg [o1 122 (.copy 0),
    o1 123 (.copy 5),
    o1 124 (.index 122 (.t 123)),
    o1 125 (.idx (.t 124)),
    o1 126 (.idx (.t 125)),
    o1 127 (.load 122 [(0, 14)] 11 (.t 126) 1 false),
    o1 128 (.copy 1),
    o1 129 (.data (.bin .neq) [.t 127, .t 128])])
  (.cond (.t 129)
   (.seq (.rg [o1 4 (.lit [.i .i64] [.int .i64 (-1)])])
   .ret)
   .skip))
  (.seq (.rg [o1 130 (.copy 1),
    o1 131 (.data (.bin .add) [.t 130, .c (.int .i64 (1))]),
    o1 1 (.copy 131)])
  (.seq (.rg [o1 132 (.copy 0),
    o1 133 (.copy 5),
    o1 134 (.index 132 (.t 133)),
    o1 135 (.idx (.t 134)),
    o1 136 (.idx (.t 135)),
    o1 137 (.load 132 [(0, 14)] 12 (.t 136) 1 false),
    o1 138 (.copy 1),
    o3 139 148 [.t 137, .t 138],
    o1 1 (.copy 139)])
  (.seq (.seq (.rg [o1 140 (.copy 1),
    o1 141 (.data (.bin .lss) [.t 140, .c (.int .i64 (0))])])
  (.cond (.t 141)
   (.seq (.rg [o1 4 (.lit [.i .i64] [.int .i64 (-1)])])
   .ret)
   .skip))
  (.seq (.seq (.rg [o1 142 (.copy 0),
    o1 143 (.copy 5),
    o1 144 (.index 142 (.t 143)),
    o1 145 (.idx (.t 144)),
    o1 146 (.idx (.t 145)),
    o1 147 (.load 142 [(0, 14)] 13 (.t 146) 1 false),
    o1 148 (.copy 1),
    o1 149 (.data (.bin .neq) [.t 147, .t 148])])
  (.cond (.t 149)
   (.seq (.rg [o1 4 (.lit [.i .i64] [.int .i64 (-1)])])
   .ret)
   .skip))
  (.rg [o1 150 (.copy 1),
    o1 151 (.data (.bin .add) [.t 150, .c (.int .i64 (1))]),
    o1 1 (.copy 151)])))))))))))))))))))))))))))))
  (.rg [o1 10 (.copy 5),
    o1 11 (.data (.bin .add) [.t 10, .c (.int .i64 (1))]),
    o1 5 (.copy 11)])))))))
 (.seq (.rg [o1 152 (.copy 1),
   o1 4 (.copy 152)])
 .ret)))
def s_lheldRecS : Sig := ⟨[.rd false [.sl (.own none) [.d, .d, .d, .d, .d, .d, .d, .d, .sl (.own none) [.d, .d], .sl (.own none) [.d], .d, .d, .sl (.own none) [.d, .d], .d]], .rd false [.d]], (.one false [.d])⟩
noncomputable def E_lheldRecS : TEnv := envOf [(148, p_lheldEdgeS), (149, p_lheldIntS)]
noncomputable def f_lheldRecS (n : Nat) : (List (Int × Int × Int × Int × Int × Int × Int × Bool × List (Int × Int) × List (Int) × Int × Int × List (Int × Int) × Int)) × Int → Option ((Int) × Unit) := runFn n E_lheldRecS c_lheldRecS [[.sl [.i .i64, .i .i64, .i .i64, .i .i64, .i .i64, .i .i64, .i .i64, .b, .sl [.i .i64, .i .i64], .sl [.i .i64], .i .i64, .i .i64, .sl [.i .i64, .i .i64], .i .i64]], [.i .i64]] [.i .i64] [] [4] .no
noncomputable def g_lheldRecS := f_lheldRecS BIG
noncomputable def p_lheldRecS : TSp := ⟨s_lheldRecS, [[.sl [.i .i64, .i .i64, .i .i64, .i .i64, .i .i64, .i .i64, .i .i64, .b, .sl [.i .i64, .i .i64], .sl [.i .i64], .i .i64, .i .i64, .sl [.i .i64, .i .i64], .i .i64]], [.i .i64]], [.i .i64], [], Ou.j .no, g_lheldRecS⟩
theorem k_lheldRecS : chkW PG E_lheldRecS 58 s_lheldRecS (c_lheldRecS.ht 153) .no = some (c_lheldRecS.wc E_lheldRecS, [4]) := by kernel_rfl
theorem ok_lheldRecS : p_lheldRecS.Ok PG 58 := mkOk (env_cons ok_lheldEdgeS (env_cons ok_lheldIntS (env_nil PG))) k_lheldRecS (by kernel_rfl)
theorem e_lheldRecS (n : Nat) (a0 : List (Int × Int × Int × Int × Int × Int × Int × Bool × (List (Int × Int)) × (List (Int)) × Int × Int × (List (Int × Int)) × Int)) (a1 : Int) : f_lheldRecS n (a0, a1) =
  Option.bind (loopT n (X := Int × Int) (B := (Int) ⊕ (Int)) (fun self1 x0 =>
    bif decide (x0.2 < (a0.length : Int)) then
     bnd a0.length x0.2 fun n2 =>
     Option.bind a0[n2]? fun y3 =>
     bif !decide (y3.1 = x0.1) then
      some (Sum.inr (-1 : Int))
     else bnd a0.length x0.2 fun n4 =>
     Option.bind a0[n4]? fun y5 =>
     bif !decide (y5.2.1 = (IntKind.wrap .i64 (x0.1 + (1 : Int)))) then
      some (Sum.inr (-1 : Int))
     else bnd a0.length x0.2 fun n6 =>
     Option.bind a0[n6]? fun y7 =>
     bif !decide (y7.2.2.1 = (IntKind.wrap .i64 ((IntKind.wrap .i64 (x0.1 + (1 : Int))) + (1 : Int)))) then
      some (Sum.inr (-1 : Int))
     else bnd a0.length x0.2 fun n8 =>
     Option.bind a0[n8]? fun y9 =>
     bif !decide (y9.2.2.2.1 = (IntKind.wrap .i64 ((IntKind.wrap .i64 ((IntKind.wrap .i64 (x0.1 + (1 : Int))) + (1 : Int))) + (1 : Int)))) then
      some (Sum.inr (-1 : Int))
     else bnd a0.length x0.2 fun n10 =>
     Option.bind a0[n10]? fun y11 =>
     bif !decide (y11.2.2.2.2.1 = (IntKind.wrap .i64 ((IntKind.wrap .i64 ((IntKind.wrap .i64 ((IntKind.wrap .i64 (x0.1 + (1 : Int))) + (1 : Int))) + (1 : Int))) + (1 : Int)))) then
      some (Sum.inr (-1 : Int))
     else bnd a0.length x0.2 fun n12 =>
     Option.bind a0[n12]? fun y13 =>
     bif !decide (y13.2.2.2.2.2.1 = (IntKind.wrap .i64 ((IntKind.wrap .i64 ((IntKind.wrap .i64 ((IntKind.wrap .i64 ((IntKind.wrap .i64 (x0.1 + (1 : Int))) + (1 : Int))) + (1 : Int))) + (1 : Int))) + (1 : Int)))) then
      some (Sum.inr (-1 : Int))
     else bnd a0.length x0.2 fun n14 =>
     Option.bind a0[n14]? fun y15 =>
     bif !decide (y15.2.2.2.2.2.2.1 = (IntKind.wrap .i64 ((IntKind.wrap .i64 ((IntKind.wrap .i64 ((IntKind.wrap .i64 ((IntKind.wrap .i64 ((IntKind.wrap .i64 (x0.1 + (1 : Int))) + (1 : Int))) + (1 : Int))) + (1 : Int))) + (1 : Int))) + (1 : Int)))) then
      some (Sum.inr (-1 : Int))
     else bnd a0.length x0.2 fun n16 =>
     Option.bind a0[n16]? fun y17 =>
     bif decide ((3 : Int) = 0) then
      none
     else bif !(y17.2.2.2.2.2.2.2.1 == (decide ((Int.tmod (IntKind.wrap .i64 ((IntKind.wrap .i64 ((IntKind.wrap .i64 ((IntKind.wrap .i64 ((IntKind.wrap .i64 ((IntKind.wrap .i64 ((IntKind.wrap .i64 (x0.1 + (1 : Int))) + (1 : Int))) + (1 : Int))) + (1 : Int))) + (1 : Int))) + (1 : Int))) + (1 : Int))) (3 : Int)) = (0 : Int)))) then
      some (Sum.inr (-1 : Int))
     else bnd a0.length x0.2 fun n18 =>
     Option.bind a0[n18]? fun y19 =>
     Option.bind (g_lheldEdgeS (y19.2.2.2.2.2.2.2.2.1, IntKind.wrap .i64 ((IntKind.wrap .i64 ((IntKind.wrap .i64 ((IntKind.wrap .i64 ((IntKind.wrap .i64 ((IntKind.wrap .i64 ((IntKind.wrap .i64 ((IntKind.wrap .i64 (x0.1 + (1 : Int))) + (1 : Int))) + (1 : Int))) + (1 : Int))) + (1 : Int))) + (1 : Int))) + (1 : Int))) + (1 : Int)))) fun r20 =>
     bif decide (r20.1 < (0 : Int)) then
      some (Sum.inr (-1 : Int))
     else bnd a0.length x0.2 fun n21 =>
     Option.bind a0[n21]? fun y22 =>
     Option.bind (g_lheldIntS (y22.2.2.2.2.2.2.2.2.2.1, r20.1)) fun r23 =>
     bif decide (r23.1 < (0 : Int)) then
      some (Sum.inr (-1 : Int))
     else bnd a0.length x0.2 fun n24 =>
     Option.bind a0[n24]? fun y25 =>
     bif !decide (y25.2.2.2.2.2.2.2.2.2.2.1 = r23.1) then
      some (Sum.inr (-1 : Int))
     else bnd a0.length x0.2 fun n26 =>
     Option.bind a0[n26]? fun y27 =>
     bif !decide (y27.2.2.2.2.2.2.2.2.2.2.2.1 = (IntKind.wrap .i64 (r23.1 + (1 : Int)))) then
      some (Sum.inr (-1 : Int))
     else bnd a0.length x0.2 fun n28 =>
     Option.bind a0[n28]? fun y29 =>
     Option.bind (g_lheldEdgeS (y29.2.2.2.2.2.2.2.2.2.2.2.2.1, IntKind.wrap .i64 ((IntKind.wrap .i64 (r23.1 + (1 : Int))) + (1 : Int)))) fun r30 =>
     bif decide (r30.1 < (0 : Int)) then
      some (Sum.inr (-1 : Int))
     else bnd a0.length x0.2 fun n31 =>
     Option.bind a0[n31]? fun y32 =>
     bif !decide (y32.2.2.2.2.2.2.2.2.2.2.2.2.2 = r30.1) then
      some (Sum.inr (-1 : Int))
     else self1 (IntKind.wrap .i64 (r30.1 + (1 : Int)), IntKind.wrap .i64 (x0.2 + (1 : Int)))
    else some (Sum.inl x0.1)) (a1, (0 : Int)) : Option ((Int) ⊕ (Int))) fun y => match y with
  | .inl x33 =>
   some (x33, ())
  | .inr x33 =>
   some (x33, ()) := by kernel_rfl
def c_lFnExactReadRecs : TC :=
 (.seq (.rg [o1 4 (.lit [.b] [.bool false])])
 (.seq (.seq (.rg [o1 13 (.copy 1),
   o1 14 (.data .slen [.t 13]),
   o1 15 (.data (.bin .gtr) [.t 14, .c (.int .i64 (1048576))])])
 (.cond (.t 15)
  (.seq (.rg [o1 4 (.lit [.b] [.bool true])])
  .ret)
  .skip))
 (.seq (.rg [o1 17 (.copy 0),
   o1 18 (.copy 1),
   o3 19 54 [.t 17, .t 18],
   ⟨false, [], [], .det 2 (.copy 19), [16, 19], (some 16), none⟩,
   ⟨false, [], [], .det 2 (.ext 16 0 1), [20, 16], (some 20), none⟩,
   o1 21 (.ext 16 1 1),
   ⟨false, [], [], .det 2 (.copy 20), [5, 20], (some 5), none⟩,
   o1 6 (.copy 21)])
 (.seq (.rg [o1 23 (.copy 0),
   o1 24 (.copy 1),
   o3 25 55 [.t 23, .t 24],
   ⟨false, [], [], .det 2 (.copy 25), [22, 25], (some 22), none⟩,
   ⟨false, [], [], .det 2 (.ext 22 0 1), [26, 22], (some 26), none⟩,
   o1 27 (.ext 22 1 1),
   ⟨false, [], [], .det 2 (.copy 26), [7, 26], (some 7), none⟩,
   o1 8 (.copy 27)])
 (.seq (.seq (.join [⟨36, [.b], false⟩] 137170518016 none (.rg [⟨true, [], [], .det 1 (.copy 7), [28], (some 28), none⟩,
   ⟨true, [], [], .det 1 (.copy 5), [29], (some 29), none⟩,
   o3 30 56 [.t 28, .t 29],
   o1 31 (.data .not [.t 30]),
   o1 32 (.copy 31),
   o2 33 (.copy 8) 4 false,
   o2 34 (.copy 6) 4 false,
   o2 35 (.data (.bin .neq) [.t 33, .t 34]) 4 false,
   ⟨false, [], [], .pick 32 (.c (.bool true)) (.t 35), [36], (some 36), none⟩]))
 (.cond (.t 36)
  (.seq (.rg [o1 4 (.lit [.b] [.bool false])])
  .ret)
  .skip))
 (.seq (.rg [o1 9 (.lit [.i .i64] [.int .i64 (1)])])
 (.seq (.rg [⟨true, [], [], .det 1 (.copy 7), [37], (some 37), none⟩,
   o1 38 (.copy 9),
   ⟨false, [], [], .call 2 57 [.t 37, .t 38] (.mt 7 [] 0 37 0), [39, 7, 28, 37], (some 39), none⟩,
   o1 9 (.copy 39)])
 (.seq (.rg [o1 10 (.lit [.i .i64] [.int .i64 (1)])])
 (.seq (.rg [⟨true, [], [], .det 1 (.copy 7), [40], (some 40), none⟩,
   o1 41 (.copy 10),
   o3 42 58 [.t 40, .t 41],
   o1 10 (.copy 42)])
 (.seq (.seq (.rg [o1 43 (.copy 10),
   o1 44 (.data (.bin .lss) [.t 43, .c (.int .i64 (0))])])
 (.cond (.t 44)
  (.seq (.rg [o1 4 (.lit [.b] [.bool false])])
  .ret)
  .skip))
 (.seq (.seq (.rg [o1 45 (.copy 10),
   o1 46 (.copy 9),
   o1 47 (.data (.bin .neq) [.t 45, .t 46])])
 (.cond (.t 47)
  (.seq (.rg [o1 4 (.lit [.b] [.bool false])])
  .ret)
  .skip))
 (.seq (.rg [o1 49 (.copy 0),
   o1 50 (.copy 1),
   o3 51 55 [.t 49, .t 50],
   ⟨false, [], [], .det 2 (.copy 51), [48, 51], (some 48), none⟩,
   ⟨false, [], [], .det 2 (.ext 48 0 1), [52, 48], (some 52), none⟩,
   o1 53 (.ext 48 1 1),
   ⟨false, [], [], .det 2 (.copy 52), [11, 52], (some 11), none⟩,
   o1 12 (.copy 53)])
 (.seq (.seq (.join [⟨62, [.b], false⟩] 9205357638882166816 none (.rg [⟨false, [], [], .det 2 (.copy 11), [54, 11], (some 54), none⟩,
   ⟨false, [], [], .det 2 (.copy 5), [55, 5, 29], (some 55), none⟩,
   o3 56 56 [.t 54, .t 55],
   o1 57 (.data .not [.t 56]),
   o1 58 (.copy 57),
   o2 59 (.copy 12) 4 false,
   o2 60 (.copy 6) 4 false,
   o2 61 (.data (.bin .neq) [.t 59, .t 60]) 4 false,
   ⟨false, [], [], .pick 58 (.c (.bool true)) (.t 61), [62], (some 62), none⟩]))
 (.cond (.t 62)
  (.seq (.rg [o1 4 (.lit [.b] [.bool false])])
  .ret)
  .skip))
 (.seq (.rg [o1 10 (.lit [.i .i64] [.int .i64 (1)])])
 (.seq (.rg [⟨false, [], [], .det 2 (.copy 7), [63, 7, 40], (some 63), none⟩,
   o1 64 (.copy 10),
   o3 65 58 [.t 63, .t 64],
   o1 10 (.copy 65)])
 (.seq (.seq (.rg [o1 66 (.copy 10),
   o1 67 (.data (.bin .lss) [.t 66, .c (.int .i64 (0))])])
 (.cond (.t 67)
  (.seq (.rg [o1 4 (.lit [.b] [.bool false])])
  .ret)
  .skip))
 (.seq (.seq (.rg [o1 68 (.copy 10),
   o1 69 (.copy 9),
   o1 70 (.data (.bin .neq) [.t 68, .t 69])])
 (.cond (.t 70)
  (.seq (.rg [o1 4 (.lit [.b] [.bool false])])
  .ret)
  .skip))
 (.seq (.rg [o1 4 (.lit [.b] [.bool true])])
 .ret))))))))))))))))))
def s_lFnExactReadRecs : Sig := ⟨[.rd false [.d], .rd false [.d]], (.one false [.d])⟩
noncomputable def E_lFnExactReadRecs : TEnv := envOf [(54, p_sReadRecs), (55, p_iReadRecs), (56, p_leqRecS), (57, p_lmarkRecS), (58, p_lheldRecS)]
noncomputable def f_lFnExactReadRecs (n : Nat) : Int × ByteArray → Option ((Bool) × Unit) := runFn n E_lFnExactReadRecs c_lFnExactReadRecs [[.i .i64], [.s]] [.b] [] [4] .no
noncomputable def g_lFnExactReadRecs := f_lFnExactReadRecs BIG
noncomputable def p_lFnExactReadRecs : TSp := ⟨s_lFnExactReadRecs, [[.i .i64], [.s]], [.b], [], Ou.j .no, g_lFnExactReadRecs⟩
theorem k_lFnExactReadRecs : chkW PG E_lFnExactReadRecs 11 s_lFnExactReadRecs (c_lFnExactReadRecs.ht 71) .no = some (c_lFnExactReadRecs.wc E_lFnExactReadRecs, [4]) := by kernel_rfl
theorem ok_lFnExactReadRecs : p_lFnExactReadRecs.Ok PG 11 := mkOk (env_cons ok_sReadRecs (env_cons ok_iReadRecs (env_cons ok_leqRecS (env_cons ok_lmarkRecS (env_cons ok_lheldRecS (env_nil PG)))))) k_lFnExactReadRecs (by kernel_rfl)
theorem e_lFnExactReadRecs (n : Nat) (a0 : Int) (a1 : ByteArray) : f_lFnExactReadRecs n (a0, a1) =
  bif decide ((1048576 : Int) < (a1.size : Int)) then
   some (true, ())
  else Option.bind (g_sReadRecs (a0, a1)) fun r0 =>
  Option.bind (g_iReadRecs (a0, a1)) fun r1 =>
  Option.bind (Option.bind (g_leqRecS (r1.1.1, r0.1.1)) fun r2 =>
   bif !r2.1 then
    some true
   else some (!decide (r1.1.2 = r0.1.2)) : Option (Bool)) fun x3 =>
  bif x3 then
   some (false, ())
  else Option.bind (g_lmarkRecS (r1.1.1, (1 : Int))) fun r4 =>
  Option.bind (g_lheldRecS (r4.2, (1 : Int))) fun r5 =>
  bif decide (r5.1 < (0 : Int)) then
   some (false, ())
  else bif !decide (r5.1 = r4.1) then
   some (false, ())
  else Option.bind (g_iReadRecs (a0, a1)) fun r6 =>
  Option.bind (Option.bind (g_leqRecS (r6.1.1, r0.1.1)) fun r7 =>
   bif !r7.1 then
    some true
   else some (!decide (r6.1.2 = r0.1.2)) : Option (Bool)) fun x8 =>
  bif x8 then
   some (false, ())
  else Option.bind (g_lheldRecS (r4.2, (1 : Int))) fun r9 =>
  bif decide (r9.1 < (0 : Int)) then
   some (false, ())
  else bif !decide (r9.1 = r4.1) then
   some (false, ())
  else some (true, ()) := by kernel_rfl
end Go.Fw
