/- The given functions, as what they compute; each is shown to be what the code does. No conditions. -/
import Derived.Test.YtjicinmnfkinhaaX0
set_option linter.unusedVariables false
set_option linter.unusedSimpArgs false
set_option linter.unusedSectionVars false
namespace Go.Fw
/- laws.FnForests -/
def c_lFnForests : TC :=
 (.seq (.rg [o1 2 (.lit [.b] [.bool false])])
 (.seq (.seq (.rg [o1 13 (.copy 0),
   o3 14 5 [.t 13]])
 (.cond (.t 14)
  (.seq (.rg [o1 2 (.lit [.b] [.bool true])])
  .ret)
  .skip))
 (.seq (.rg [o1 16 (.copy 0),
   o3 17 11 [.t 16],
   ⟨false, [], [], .det 2 (.copy 17), [15, 17], (some 15), none⟩,
   o1 18 (.ext 15 0 2),
   o1 19 (.ext 15 2 2),
   ⟨false, [], [], .det 2 (.a (.c [.i .i64, .sl [.sl [.i .i64]]] [.int .i64 (0), .slice none 0 0])), [3, 1000000004], (some 3), none⟩,
   ⟨false, [], [], .det 2 (.a (.c [.i .i64, .i .i64] [.int .i64 (0), .int .i64 (0)])), [4, 1000000005], (some 4), none⟩,
   o4 1 [3] (.store 3 [] 0 .nil (.t 18)),
   o4 1 [4] (.store 4 [] 0 .nil (.t 19))])
 (.seq (.rg [o1 20 (.load 3 [] 0 .nil 2 false),
   o1 21 (.idx .nil),
   o1 22 (.load 4 [] 0 (.t 21) 1 false),
   o3 23 12 [.t 20, .t 22],
   o1 5 (.copy 23)])
 (.seq (.rg [o1 24 (.load 3 [] 0 .nil 2 false),
   o1 25 (.idx .nil),
   o1 26 (.load 4 [] 1 (.t 25) 1 false),
   o3 27 12 [.t 24, .t 26],
   o1 6 (.copy 27)])
 (.seq (.rg [o1 29 (.load 3 [] 0 .nil 2 false),
   o1 30 (.load 4 [] 0 .nil 2 false),
   o3 31 13 [.t 29, .t 30],
   ⟨false, [], [], .det 2 (.copy 31), [28, 31], (some 28), none⟩,
   ⟨false, [], [], .det 2 (.ext 28 0 2), [32, 28], (some 32), none⟩,
   o1 33 (.ext 28 2 1),
   ⟨false, [], [], .det 2 (.a (.c [.i .i64, .sl [.sl [.i .i64]]] [.int .i64 (0), .slice none 0 0])), [7, 1000000008], (some 7), none⟩,
   o4 2 [7, 32] (.store 7 [] 0 .nil (.t 32)),
   o1 8 (.copy 33)])
 (.seq (.seq (.join [⟨51, [.b], false⟩] 4503582447501312 none (.rg [o1 34 (.load 3 [] 0 .nil 2 false),
   o3 35 14 [.t 34],
   o1 36 (.data .not [.t 35]),
   o1 37 (.copy 36),
   o2 38 (.copy 5) 3 false,
   o2 39 (.data (.bin .lss) [.t 38, .c (.int .i64 (0))]) 3 false,
   ⟨false, [], [], .pick 37 (.c (.bool true)) (.t 39), [40], (some 40), none⟩,
   o1 41 (.copy 40),
   o2 42 (.copy 6) 7 false,
   o2 43 (.data (.bin .lss) [.t 42, .c (.int .i64 (0))]) 7 false,
   ⟨false, [], [], .pick 41 (.c (.bool true)) (.t 43), [44], (some 44), none⟩,
   o1 45 (.copy 44),
   o2 46 (.copy 8) 11 false,
   o2 47 (.copy 5) 11 false,
   o2 48 (.copy 6) 11 false,
   o2 49 (.data (.bin .neq) [.t 47, .t 48]) 11 false,
   o2 50 (.data (.beq true) [.t 46, .t 49]) 11 false,
   ⟨false, [], [], .pick 45 (.c (.bool true)) (.t 50), [51], (some 51), none⟩]))
 (.cond (.t 51)
  (.seq (.rg [o1 2 (.lit [.b] [.bool false])])
  .ret)
  .skip))
 (.seq (.seq (.rg [o1 52 (.copy 8),
   o1 53 (.data .not [.t 52])])
 (.cond (.t 53)
  (.seq (.rg [o1 54 (.idx .nil),
    o1 55 (.load 7 [] 1 (.t 54) 1 true),
    o1 56 (.len 55),
    o1 57 (.data (.bin .eql) [.t 56, .c (.int .i64 (0))]),
    o1 2 (.copy 57)])
  .ret)
  .skip))
 (.seq (.rg [o1 59 (.load 7 [] 0 .nil 2 true),
   o1 60 (.load 4 [] 0 .nil 2 false),
   o3 61 15 [.t 59, .t 60],
   ⟨false, [], [], .det 2 (.copy 61), [58, 61], (some 58), none⟩,
   ⟨false, [], [], .det 2 (.ext 58 0 2), [62, 58], (some 62), none⟩,
   o1 63 (.ext 58 2 1),
   ⟨false, [], [], .det 2 (.a (.c [.i .i64, .sl [.sl [.i .i64]]] [.int .i64 (0), .slice none 0 0])), [9, 1000000010], (some 9), none⟩,
   o4 2 [9, 62] (.store 9 [] 0 .nil (.t 62)),
   o1 10 (.copy 63)])
 (.seq (.rg [o1 64 (.load 3 [] 0 .nil 2 false),
   o1 65 (.idx .nil),
   o1 66 (.load 4 [] 0 (.t 65) 1 false),
   o3 67 16 [.t 64, .t 66],
   o1 68 (.load 3 [] 0 .nil 2 false),
   o1 69 (.idx .nil),
   o1 70 (.load 4 [] 1 (.t 69) 1 false),
   o3 71 16 [.t 68, .t 70],
   o1 72 (.data (.bin .add) [.t 67, .t 71]),
   o1 11 (.copy 72)])
 (.seq (.rg [o1 73 (.load 7 [] 0 .nil 2 true),
   o3 74 17 [.t 73],
   ⟨false, [], [], .det 2 (.copy 74), [12, 74], (some 12), none⟩])
 (.seq (.join [⟨2, [.b], false⟩] 21778071482940061623877043012676003823620 none (.rg [o1 75 (.copy 10),
   o1 76 (.copy 75),
   o2 77 (.load 7 [] 0 .nil 2 true) 1 true,
   ⟨false, [], [], .call 1 14 [.t 77] .no, [78], (some 78), some (1, true)⟩,
   ⟨false, [], [], .pick 76 (.t 78) (.c (.bool false)), [79], (some 79), none⟩,
   o1 80 (.copy 79),
   o2 81 (.idx .nil) 5 true,
   o2 82 (.load 7 [] 1 (.t 81) 1 true) 5 true,
   o2 83 (.len 82) 5 true,
   o2 84 (.idx .nil) 5 true,
   o2 85 (.load 3 [] 1 (.t 84) 1 false) 5 true,
   o2 86 (.len 85) 5 true,
   o2 87 (.data (.bin .sub) [.t 86, .c (.int .i64 (1))]) 5 true,
   o2 88 (.data (.bin .eql) [.t 83, .t 87]) 5 true,
   ⟨false, [], [], .pick 80 (.t 88) (.c (.bool false)), [89], (some 89), none⟩,
   o1 90 (.copy 89),
   o2 91 (.load 7 [] 0 .nil 2 true) 15 true,
   o2 92 (.idx .nil) 15 true,
   o2 93 (.load 4 [] 0 (.t 92) 1 false) 15 true,
   ⟨false, [], [], .call 1 16 [.t 91, .t 93] .no, [94], (some 94), some (15, true)⟩,
   o2 95 (.copy 11) 15 true,
   o2 96 (.data (.bin .eql) [.t 94, .t 95]) 15 true,
   ⟨false, [], [], .pick 90 (.t 96) (.c (.bool false)), [97], (some 97), none⟩,
   o1 98 (.copy 97),
   o2 99 (.load 7 [] 0 .nil 2 true) 23 true,
   o2 100 (.idx .nil) 23 true,
   o2 101 (.load 4 [] 0 (.t 100) 1 false) 23 true,
   ⟨false, [], [], .call 1 12 [.t 99, .t 101] .no, [102], (some 102), some (23, true)⟩,
   o2 103 (.load 7 [] 0 .nil 2 true) 23 true,
   o2 104 (.idx .nil) 23 true,
   o2 105 (.load 4 [] 1 (.t 104) 1 false) 23 true,
   ⟨false, [], [], .call 1 12 [.t 103, .t 105] .no, [106], (some 106), some (23, true)⟩,
   o2 107 (.data (.bin .eql) [.t 102, .t 106]) 23 true,
   ⟨false, [], [], .pick 98 (.t 107) (.c (.bool false)), [108], (some 108), none⟩,
   o1 109 (.copy 108),
   ⟨true, [], [], .det 1 (.copy 12), [110], (some 110), some (34, true)⟩,
   o2 111 (.load 4 [] 0 .nil 2 false) 34 true,
   ⟨false, [], [], .call 1 18 [.t 110, .t 111] .no, [112], (some 112), some (34, true)⟩,
   ⟨false, [], [], .pick 109 (.t 112) (.c (.bool false)), [113], (some 113), none⟩,
   o1 114 (.copy 113),
   ⟨true, [], [], .det 1 (.copy 12), [115], (some 115), some (39, true)⟩,
   o2 116 (.len 115) 39 true,
   o2 117 (.load 3 [] 0 .nil 2 false) 39 true,
   ⟨false, [], [], .call 1 17 [.t 117] .no, [118], (some 118), some (39, true)⟩,
   o2 119 (.len 118) 39 true,
   o2 120 (.data (.bin .add) [.t 119, .c (.int .i64 (1))]) 39 true,
   o2 121 (.data (.bin .eql) [.t 116, .t 120]) 39 true,
   ⟨false, [], [], .pick 114 (.t 121) (.c (.bool false)), [122], (some 122), none⟩,
   o1 123 (.copy 122),
   o2 124 (.load 9 [] 0 .nil 2 true) 48 true,
   ⟨false, [], [], .call 1 20 [.t 124] .no, [125], (some 125), some (48, true)⟩,
   o2 126 (.load 3 [] 0 .nil 2 false) 48 true,
   ⟨false, [], [], .call 1 20 [.t 126] .no, [127], (some 127), some (48, true)⟩,
   ⟨false, [], [], .call 1 19 [.t 125, .t 127] .no, [128], (some 128), some (48, true)⟩,
   ⟨false, [], [], .pick 123 (.t 128) (.c (.bool false)), [129], (some 129), none⟩,
   o1 130 (.copy 129),
   o2 131 (.load 9 [] 0 .nil 2 true) 55 true,
   ⟨false, [], [], .call 1 21 [.t 131] .no, [132], (some 132), some (55, true)⟩,
   ⟨false, [], [], .pick 130 (.t 132) (.c (.bool false)), [133], (some 133), none⟩,
   o1 2 (.copy 133)]))
 .ret))))))))))))
def s_lFnForests : Sig := ⟨[.rd false [.sl (.own none) [.d]]], (.one false [.d])⟩
noncomputable def E_lFnForests : TEnv := envOf [(5, p_lbig), (11, p_sDrawRightForest), (12, p_iTreeOf), (13, p_iLink), (14, p_iForestOk), (15, p_iCut), (16, p_iSizeOf), (17, p_iEdgesOf), (18, p_lhas), (20, p_lparts), (19, p_lsameInts), (21, p_sForestOk)]
noncomputable def f_lFnForests (n : Nat) : List (Int) → Option ((Bool) × Unit) := runFn n E_lFnForests c_lFnForests [[.sl [.i .u8]]] [.b] [] [2] .no
noncomputable def g_lFnForests := f_lFnForests BIG
noncomputable def p_lFnForests : TSp := ⟨s_lFnForests, [[.sl [.i .u8]]], [.b], [], Ou.j .no, g_lFnForests⟩
theorem k_lFnForests : chkW PG E_lFnForests 4 s_lFnForests (c_lFnForests.ht 134) .no = some (c_lFnForests.wc E_lFnForests, [2]) := by kernel_rfl
theorem ok_lFnForests : p_lFnForests.Ok PG 4 := mkOk (env_cons ok_lbig (env_cons ok_sDrawRightForest (env_cons ok_iTreeOf (env_cons ok_iLink (env_cons ok_iForestOk (env_cons ok_iCut (env_cons ok_iSizeOf (env_cons ok_iEdgesOf (env_cons ok_lhas (env_cons ok_lparts (env_cons ok_lsameInts (env_cons ok_sForestOk (env_nil PG))))))))))))) k_lFnForests (by kernel_rfl)
theorem e_lFnForests (n : Nat) (a0 : List (Int)) : f_lFnForests n a0 =
  Option.bind (g_lbig a0) fun r0 =>
  bif r0.1 then
   some (true, ())
  else Option.bind (g_sDrawRightForest a0) fun r1 =>
  Option.bind (g_iTreeOf ((r1.1.1, r1.1.2.1), r1.1.2.2.1)) fun r2 =>
  Option.bind (g_iTreeOf ((r1.1.1, r1.1.2.1), r1.1.2.2.2)) fun r3 =>
  Option.bind (g_iLink ((r1.1.1, r1.1.2.1), r1.1.2.2)) fun r4 =>
  Option.bind (Option.bind (g_iForestOk (r1.1.1, r1.1.2.1)) fun r5 =>
   bif !r5.1 then
    some true
   else bif decide (r2.1 < (0 : Int)) then
    some true
   else bif decide (r3.1 < (0 : Int)) then
    some true
   else some (!(r4.1.2.2 == (!decide (r2.1 = r3.1)))) : Option (Bool)) fun x6 =>
  bif x6 then
   some (false, ())
  else bif !r4.1.2.2 then
   some (decide ((r4.1.2.1.length : Int) = (0 : Int)), ())
  else Option.bind (g_iCut ((r4.1.1, r4.1.2.1), r1.1.2.2)) fun r7 =>
  Option.bind (g_iSizeOf ((r1.1.1, r1.1.2.1), r1.1.2.2.1)) fun r8 =>
  Option.bind (g_iSizeOf ((r1.1.1, r1.1.2.1), r1.1.2.2.2)) fun r9 =>
  Option.bind (g_iEdgesOf (r4.1.1, r4.1.2.1)) fun r10 =>
  Option.bind (bif r7.1.2.2 then
    Option.bind (g_iForestOk (r4.1.1, r4.1.2.1)) fun r11 =>
    bif r11.1 then
     bif decide ((r4.1.2.1.length : Int) = (IntKind.wrap .i64 ((r1.1.2.1.length : Int) - (1 : Int)))) then
      Option.bind (g_iSizeOf ((r4.1.1, r4.1.2.1), r1.1.2.2.1)) fun r12 =>
      bif decide (r12.1 = (IntKind.wrap .i64 (r8.1 + r9.1))) then
       Option.bind (g_iTreeOf ((r4.1.1, r4.1.2.1), r1.1.2.2.1)) fun r13 =>
       Option.bind (g_iTreeOf ((r4.1.1, r4.1.2.1), r1.1.2.2.2)) fun r14 =>
       bif decide (r13.1 = r14.1) then
        Option.bind (g_lhas (r10.1, r1.1.2.2)) fun r15 =>
        bif r15.1 then
         Option.bind (g_iEdgesOf (r1.1.1, r1.1.2.1)) fun r16 =>
         bif decide ((r10.1.length : Int) = (IntKind.wrap .i64 ((r16.1.length : Int) + (1 : Int)))) then
          Option.bind (g_lparts (r7.1.1, r7.1.2.1)) fun r17 =>
          Option.bind (g_lparts (r1.1.1, r1.1.2.1)) fun r18 =>
          Option.bind (g_lsameInts (r17.1, r18.1)) fun r19 =>
          bif r19.1 then
           Option.bind (g_sForestOk (r7.1.1, r7.1.2.1)) fun r20 =>
           some r20.1
          else some false
         else some false
        else some false
       else some false
      else some false
     else some false
    else some false
   else some false : Option (Bool)) fun x21 =>
  some (x21, ()) := by kernel_rfl
end Go.Fw
