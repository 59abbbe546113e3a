/- The given functions, as what they compute; each is shown to be what the code does. No conditions. -/
import Derived.Test.YtojipknoidbbgaaX0
set_option linter.unusedVariables false
set_option linter.unusedSimpArgs false
namespace Go.Fw
/- impl.badAsk -/
def c_ibadAsk : TC :=
 (.seq (.rg [o1 2 (.a (.t 0)),
   o1 3 (.a (.t 1)),
   o1 4 (.lit [.b] [.bool false])])
 (.seq (.rg [o1 7 (.idx .nil),
   o1 8 (.load 2 [] 0 (.t 7) 1 false),
   o1 9 (.data (.bin .sub) [.t 8, .c (.int .i64 (1))]),
   o1 5 (.copy 9)])
 (.seq (.rg [o1 6 (.lit [.i .i64] [.int .i64 (0)])])
 (.seq (.join [⟨6, [.i .i64], false⟩, ⟨5, [.i .i64], false⟩] 64608 none (.seq (.rg [o1 10 (.idx .nil),
   o1 11 (.load 3 [] 1 (.t 10) 1 false),
   o1 12 (.data (.bin .eql) [.t 11, .c (.int .i64 (4))])])
 (.cond (.t 12)
  (.rg [o1 13 (.idx .nil),
    o1 14 (.load 2 [] 3 (.t 13) 1 false),
    o1 15 (.len 14),
    o1 6 (.lit [.i .i64] [.int .i64 (1)]),
    o1 5 (.copy 15)])
  .skip)))
 (.seq (.seq (.join [⟨36, [.b], false⟩] 137438887936 none (.rg [o1 16 (.idx .nil),
   o1 17 (.load 3 [] 1 (.t 16) 1 false),
   o3 18 101 [.t 17, .c [.i .i64] [.int .i64 (1)], .c [.i .i64] [.int .i64 (4)]],
   o1 19 (.data .not [.t 18]),
   o1 20 (.copy 19),
   o2 21 (.idx .nil) 4 false,
   o2 22 (.load 3 [] 2 (.t 21) 1 false) 4 false,
   o2 23 (.idx .nil) 4 false,
   o2 24 (.load 2 [] 0 (.t 23) 1 false) 4 false,
   o2 25 (.data (.bin .sub) [.t 24, .c (.int .i64 (1))]) 4 false,
   ⟨false, [], [], .call 1 101 [.t 22, .c [.i .i64] [.int .i64 (0)], .t 25] .no, [26], (some 26), some (4, false)⟩,
   o2 27 (.data .not [.t 26]) 4 false,
   ⟨false, [], [], .pick 20 (.c (.bool true)) (.t 27), [28], (some 28), none⟩,
   o1 29 (.copy 28),
   o2 30 (.idx .nil) 13 false,
   o2 31 (.load 3 [] 3 (.t 30) 1 false) 13 false,
   o2 32 (.copy 6) 13 false,
   o2 33 (.copy 5) 13 false,
   ⟨false, [], [], .call 1 101 [.t 31, .t 32, .t 33] .no, [34], (some 34), some (13, false)⟩,
   o2 35 (.data .not [.t 34]) 13 false,
   ⟨false, [], [], .pick 29 (.c (.bool true)) (.t 35), [36], (some 36), none⟩]))
 (.cond (.t 36)
  (.seq (.rg [o1 4 (.lit [.b] [.bool true])])
  .ret)
  .skip))
 (.seq (.join [⟨4, [.b], false⟩] 4503462188417040 none (.rg [o1 37 (.idx .nil),
   o1 38 (.load 3 [] 2 (.t 37) 1 false),
   o1 39 (.idx .nil),
   o1 40 (.load 3 [] 3 (.t 39) 1 false),
   o1 41 (.data (.bin .eql) [.t 38, .t 40]),
   o1 42 (.copy 41),
   o2 43 (.idx .nil) 5 true,
   o2 44 (.load 3 [] 1 (.t 43) 1 false) 5 true,
   o2 45 (.data (.bin .eql) [.t 44, .c (.int .i64 (1))]) 5 true,
   o2 46 (.copy 45) 5 true,
   o2 47 (.idx .nil) 9 false,
   o2 48 (.load 3 [] 1 (.t 47) 1 false) 9 false,
   o2 49 (.data (.bin .eql) [.t 48, .c (.int .i64 (2))]) 9 false,
   ⟨false, [], [], .pick 46 (.c (.bool true)) (.t 49), [50], (some 50), some (5, true)⟩,
   ⟨false, [], [], .pick 42 (.t 50) (.c (.bool false)), [51], (some 51), none⟩,
   o1 4 (.copy 51)]))
 .ret))))))
def s_ibadAsk : Sig := ⟨[.rd true [.d, .sl (.own none) [.d], .sl (.own none) [.d, .d], .sl (.own none) [.sl (.own none) [.d]], .sl (.own none) [.d], .d, .d, .d, .d, .d, .d, .d, .sl (.own none) [.d, .d], .d, .sl (.own none) [.d, .d, .d, .d, .d, .d]], .rd true [.d, .d, .d, .d]], (.one false [.d])⟩
noncomputable def E_ibadAsk : TEnv := envOf [(101, p_iin)]
noncomputable def f_ibadAsk (n : Nat) : (Int × List (Int) × List (Int × Int) × List (List (Int)) × List (Int) × Int × Int × Int × Int × Int × Int × Int × List (Int × Int) × Int × List (Int × Int × Int × Int × Int × Int)) × (Int × Int × Int × Int) → Option ((Bool) × Unit) := runFn n E_ibadAsk c_ibadAsk [[.i .i64, .sl [.i .i64], .sl [.i .i64, .i .i64], .sl [.sl [.i .i64]], .sl [.i .i64], .i .i64, .i .i64, .i .i64, .i .i64, .i .i64, .i .i64, .i .i64, .sl [.i .i64, .i .i64], .i .i64, .sl [.i .i64, .i .i64, .i .i64, .i .i64, .i .i64, .i .i64]], [.i .i64, .i .i64, .i .i64, .i .i64]] [.b] [] [4] .no
noncomputable def g_ibadAsk := f_ibadAsk BIG
noncomputable def p_ibadAsk : TSp := ⟨s_ibadAsk, [[.i .i64, .sl [.i .i64], .sl [.i .i64, .i .i64], .sl [.sl [.i .i64]], .sl [.i .i64], .i .i64, .i .i64, .i .i64, .i .i64, .i .i64, .i .i64, .i .i64, .sl [.i .i64, .i .i64], .i .i64, .sl [.i .i64, .i .i64, .i .i64, .i .i64, .i .i64, .i .i64]], [.i .i64, .i .i64, .i .i64, .i .i64]], [.b], [], Ou.j .no, g_ibadAsk⟩
theorem k_ibadAsk : chkW PG E_ibadAsk 237 s_ibadAsk (c_ibadAsk.ht 52) .no = some (c_ibadAsk.wc E_ibadAsk, [4]) := by kernel_rfl
theorem ok_ibadAsk : p_ibadAsk.Ok PG 237 := mkOk (env_cons ok_iin (env_nil PG)) k_ibadAsk (by kernel_rfl)
theorem e_ibadAsk (n : Nat) (a0 : Int × List (Int) × List (Int × Int) × List ((List (Int))) × List (Int) × Int × Int × Int × Int × Int × Int × Int × List (Int × Int) × Int × List (Int × Int × Int × Int × Int × Int)) (a1 : Int × Int × Int × Int) : f_ibadAsk n (a0, a1) =
  Option.bind (bif decide (a1.2.1 = (4 : Int)) then
    some ((1 : Int), (a0.2.2.2.1.length : Int))
   else some ((0 : Int), IntKind.wrap .i64 (a0.1 - (1 : Int))) : Option (Int × Int)) fun x0 =>
  Option.bind (Option.bind (g_iin (a1.2.1, (1 : Int), (4 : Int))) fun r1 =>
   bif !r1.1 then
    some true
   else Option.bind (g_iin (a1.2.2.1, (0 : Int), IntKind.wrap .i64 (a0.1 - (1 : Int)))) fun r2 =>
   bif !r2.1 then
    some true
   else Option.bind (g_iin (a1.2.2.2, x0.1, x0.2)) fun r3 =>
   some !r3.1 : Option (Bool)) fun x4 =>
  bif x4 then
   some (true, ())
  else Option.bind (bif decide (a1.2.2.1 = a1.2.2.2) then
    bif decide (a1.2.1 = (1 : Int)) then
     some true
    else some (decide (a1.2.1 = (2 : Int)))
   else some false : Option (Bool)) fun x5 =>
  some (x5, ()) := by kernel_rfl
/- impl.OrderOk -/
def c_iOrderOk : TC :=
 (.seq (.rg [o1 3 (.a (.t 1)),
   o1 4 (.lit [.b] [.bool false])])
 (.seq (.seq (.join [⟨30, [.b], false⟩] 2147483616 none (.rg [o1 5 (.copy 0),
   o3 6 101 [.t 5, .c [.i .i64] [.int .i64 (1)], .c [.i .i64] [.int .i64 (12)]],
   o1 7 (.data .not [.t 6]),
   o1 8 (.copy 7),
   o2 9 (.idx .nil) 3 false,
   o2 10 (.load 3 [] 0 (.t 9) 1 false) 3 false,
   ⟨false, [], [], .call 1 101 [.t 10, .c [.i .i64] [.int .i64 (1)], .c [.i .i64] [.int .i64 (100000)]] .no, [11], (some 11), some (3, false)⟩,
   o2 12 (.data .not [.t 11]) 3 false,
   ⟨false, [], [], .pick 8 (.c (.bool true)) (.t 12), [13], (some 13), none⟩,
   o1 14 (.copy 13),
   o2 15 (.copy 0) 9 false,
   o2 16 (.idx .nil) 9 false,
   o2 17 (.load 3 [] 2 (.t 16) 1 false) 9 false,
   ⟨false, [], [], .call 1 232 [.t 15, .t 17] .no, [18], (some 18), some (9, false)⟩,
   o2 19 (.data .not [.t 18]) 9 false,
   ⟨false, [], [], .pick 14 (.c (.bool true)) (.t 19), [20], (some 20), none⟩,
   o1 21 (.copy 20),
   o2 22 (.idx .nil) 16 false,
   o2 23 (.load 3 [] 3 (.t 22) 1 false) 16 false,
   o2 24 (.data (.bin .neq) [.t 23, .c (.int .i64 (0))]) 16 false,
   o2 25 (.copy 24) 16 false,
   o2 26 (.idx .nil) 20 true,
   o2 27 (.load 3 [] 1 (.t 26) 1 false) 20 true,
   o2 28 (.data (.bin .neq) [.t 27, .c (.int .i64 (3))]) 20 true,
   ⟨false, [], [], .pick 25 (.t 28) (.c (.bool false)), [29], (some 29), some (16, false)⟩,
   ⟨false, [], [], .pick 21 (.c (.bool true)) (.t 29), [30], (some 30), none⟩]))
 (.cond (.t 30)
  (.seq (.rg [o1 4 (.lit [.b] [.bool false])])
  .ret)
  .skip))
 (.seq (.join [] 576460750155939856 (some [⟨4, [.b], false⟩]) (.seq (.rg [o1 31 (.idx .nil),
   o1 32 (.load 3 [] 1 (.t 31) 1 false)])
 (.block 0 (.seq (.join [⟨33, [.b], false⟩] 60129542144 none (.seq (.rg [o1 34 (.data (.bin .eql) [.t 32, .c (.int .i64 (1))]),
   o1 33 (.copy 34)])
 (.cond (.t 33)
  .skip
  (.rg [o1 35 (.data (.bin .eql) [.t 32, .c (.int .i64 (2))]),
    o1 33 (.copy 35)]))))
 (.cond (.t 33)
  (.seq (.rg [o1 36 (.idx .nil),
    o1 37 (.load 3 [] 2 (.t 36) 1 false),
    o1 38 (.len 37),
    o1 39 (.data (.bin .eql) [.t 38, .c (.int .i64 (1))]),
    o1 4 (.copy 39)])
  .ret)
  (.seq (.rg [o1 41 (.data (.bin .eql) [.t 32, .c (.int .i64 (3))]),
    o1 40 (.copy 41)])
  (.cond (.t 40)
   (.seq (.join [⟨4, [.b], false⟩] 9002801208229904 none (.rg [o1 42 (.idx .nil),
     o1 43 (.load 3 [] 2 (.t 42) 1 false),
     o1 44 (.len 43),
     o1 45 (.data (.bin .eql) [.t 44, .c (.int .i64 (0))]),
     o1 46 (.copy 45),
     o2 47 (.idx .nil) 4 true,
     o2 48 (.load 3 [] 3 (.t 47) 1 false) 4 true,
     o2 49 (.copy 0) 4 true,
     o2 50 (.data (.bin .sub) [.t 49, .c (.int .i64 (1))]) 4 true,
     ⟨false, [], [], .call 1 101 [.t 48, .c [.i .i64] [.int .i64 (0)], .t 50] .no, [51], (some 51), some (4, true)⟩,
     ⟨false, [], [], .pick 46 (.t 51) (.c (.bool false)), [52], (some 52), none⟩,
     o1 4 (.copy 52)]))
   .ret)
   (.seq (.rg [o1 54 (.data (.bin .eql) [.t 32, .c (.int .i64 (4))]),
     o1 53 (.copy 54)])
   (.cond (.t 53)
    (.seq (.rg [o1 55 (.idx .nil),
      o1 56 (.load 3 [] 2 (.t 55) 1 false),
      o1 57 (.len 56),
      o1 58 (.data (.bin .gtr) [.t 57, .c (.int .i64 (0))]),
      o1 4 (.copy 58)])
    .ret)
    .skip)))))))))
 (.seq (.rg [o1 4 (.lit [.b] [.bool false])])
 .ret))))
def s_iOrderOk : Sig := ⟨[.rd false [.d], .rd true [.d, .d, .sl (.own none) [.d, .d], .d]], (.one false [.d])⟩
noncomputable def E_iOrderOk : TEnv := envOf [(101, p_iin), (232, p_iedgesOk)]
noncomputable def f_iOrderOk (n : Nat) : Int × (Int × Int × List (Int × Int) × Int) → Option ((Bool) × Unit) := runFn n E_iOrderOk c_iOrderOk [[.i .i64], [.i .i64, .i .i64, .sl [.i .i64, .i .i64], .i .i64]] [.b] [] [4] .no
noncomputable def g_iOrderOk := f_iOrderOk BIG
noncomputable def p_iOrderOk : TSp := ⟨s_iOrderOk, [[.i .i64], [.i .i64, .i .i64, .sl [.i .i64, .i .i64], .i .i64]], [.b], [], Ou.j .no, g_iOrderOk⟩
theorem k_iOrderOk : chkW PG E_iOrderOk 241 s_iOrderOk (c_iOrderOk.ht 59) .no = some (c_iOrderOk.wc E_iOrderOk, [4]) := by kernel_rfl
theorem ok_iOrderOk : p_iOrderOk.Ok PG 241 := mkOk (env_cons ok_iin (env_cons ok_iedgesOk (env_nil PG))) k_iOrderOk (by kernel_rfl)
theorem e_iOrderOk (n : Nat) (a0 : Int) (a1 : Int × Int × List (Int × Int) × Int) : f_iOrderOk n (a0, a1) =
  Option.bind (Option.bind (g_iin (a0, (1 : Int), (12 : Int))) fun r0 =>
   bif !r0.1 then
    some true
   else Option.bind (g_iin (a1.1, (1 : Int), (100000 : Int))) fun r1 =>
   bif !r1.1 then
    some true
   else Option.bind (g_iedgesOk (a0, a1.2.2.1)) fun r2 =>
   bif !r2.1 then
    some true
   else bif !decide (a1.2.2.2 = (0 : Int)) then
    some (!decide (a1.2.1 = (3 : Int)))
   else some false : Option (Bool)) fun x3 =>
  bif x3 then
   some (false, ())
  else Option.bind (Option.bind (bif decide (a1.2.1 = (1 : Int)) then
     some true
    else some (decide (a1.2.1 = (2 : Int))) : Option (Bool)) fun x4 =>
   bif x4 then
    some (Sum.inr (decide ((a1.2.2.1.length : Int) = (1 : Int))))
   else bif decide (a1.2.1 = (3 : Int)) then
    Option.bind (bif decide ((a1.2.2.1.length : Int) = (0 : Int)) then
      Option.bind (g_iin (a1.2.2.2, (0 : Int), IntKind.wrap .i64 (a0 - (1 : Int)))) fun r5 =>
      some r5.1
     else some false : Option (Bool)) fun x6 =>
    some (Sum.inr x6)
   else bif decide (a1.2.1 = (4 : Int)) then
    some (Sum.inr (decide ((0 : Int) < (a1.2.2.1.length : Int))))
   else some (Sum.inl ()) : Option ((Unit) ⊕ (Bool))) fun y => match y with
  | .inl x7 =>
   some (false, ())
  | .inr x7 =>
   some (x7, ()) := by kernel_rfl
/- impl.taskOk -/
def c_itaskOk : TC :=
 (.seq (.rg [o1 1 (.a (.t 0)),
   o1 2 (.lit [.b] [.bool false])])
 (.seq (.rg [o1 5 (.idx .nil),
   o1 6 (.load 1 [] 5 (.t 5) 9 false),
   ⟨false, [], [], .det 2 (.a (.c [.i .i64, .i .i64, .i .i64, .i .i64, .i .i64, .i .i64, .i .i64, .sl [.i .i64, .i .i64], .i .i64] [.int .i64 (0), .int .i64 (0), .int .i64 (0), .int .i64 (0), .int .i64 (0), .int .i64 (0), .int .i64 (0), .slice none 0 0, .int .i64 (0)])), [3, 1000000001], (some 3), none⟩,
   o4 1 [3] (.store 3 [] 0 .nil (.t 6))])
 (.seq (.seq (.rg [o1 7 (.load 3 [] 0 .nil 9 false),
   o3 8 240 [.t 7]])
 (.cond (.t 8)
  (.seq (.rg [o1 2 (.lit [.b] [.bool true])])
  .ret)
  .skip))
 (.seq (.rg [o1 9 (.idx .nil),
   o1 10 (.load 3 [] 0 (.t 9) 4 false),
   ⟨false, [], [], .det 2 (.a (.c [.i .i64, .i .i64, .i .i64, .i .i64] [.int .i64 (0), .int .i64 (0), .int .i64 (0), .int .i64 (0)])), [4, 1000000001], (some 4), none⟩,
   o4 1 [4] (.store 4 [] 0 .nil (.t 10))])
 (.seq (.seq (.join [⟨24, [.b], false⟩] 33552384 none (.rg [o1 11 (.idx .nil),
   o1 12 (.load 4 [] 0 (.t 11) 1 false),
   o3 13 101 [.t 12, .c [.i .i64] [.int .i64 (1)], .c [.i .i64] [.int .i64 (100000)]],
   o1 14 (.data .not [.t 13]),
   o1 15 (.copy 14),
   o2 16 (.idx .nil) 4 false,
   o2 17 (.load 4 [] 1 (.t 16) 1 false) 4 false,
   o2 18 (.data (.bin .eql) [.t 17, .c (.int .i64 (3))]) 4 false,
   ⟨false, [], [], .pick 15 (.c (.bool true)) (.t 18), [19], (some 19), none⟩,
   o1 20 (.copy 19),
   o2 21 (.load 1 [] 0 .nil 15 false) 9 false,
   o2 22 (.load 4 [] 0 .nil 4 false) 9 false,
   ⟨false, [], [], .call 1 237 [.t 21, .t 22] .no, [23], (some 23), some (9, false)⟩,
   ⟨false, [], [], .pick 20 (.c (.bool true)) (.t 23), [24], (some 24), none⟩]))
 (.cond (.t 24)
  (.seq (.rg [o1 2 (.lit [.b] [.bool false])])
  .ret)
  .skip))
 (.seq (.join [⟨2, [.b], false⟩] 1152921504573292548 none (.rg [o1 25 (.idx .nil),
   o1 26 (.load 3 [] 4 (.t 25) 1 false),
   o1 27 (.idx .nil),
   o1 28 (.load 1 [] 3 (.t 27) 1 false),
   o1 29 (.len 28),
   o3 30 101 [.t 26, .c [.i .i64] [.int .i64 (1)], .t 29],
   o1 31 (.copy 30),
   o2 32 (.idx .nil) 6 true,
   o2 33 (.load 1 [] 0 (.t 32) 1 false) 6 true,
   o2 34 (.idx .nil) 6 true,
   o2 35 (.load 3 [] 5 (.t 34) 4 false) 6 true,
   ⟨false, [], [], .call 1 241 [.t 33, .t 35] .no, [36], (some 36), some (6, true)⟩,
   ⟨false, [], [], .pick 31 (.t 36) (.c (.bool false)), [37], (some 37), none⟩,
   o1 38 (.copy 37),
   o2 39 (.idx .nil) 13 true,
   o2 40 (.idx (.t 39)) 13 true,
   o2 41 (.load 3 [] 5 (.t 40) 1 false) 13 true,
   o2 42 (.idx .nil) 13 true,
   o2 43 (.load 1 [] 4 (.t 42) 1 false) 13 true,
   o2 44 (.idx .nil) 13 true,
   o2 45 (.load 3 [] 4 (.t 44) 1 false) 13 true,
   o2 46 (.data (.bin .sub) [.t 45, .c (.int .i64 (1))]) 13 true,
   o2 47 (.index 43 (.t 46)) 13 true,
   o2 48 (.load 43 [(0, 1)] 0 (.t 47) 1 false) 13 true,
   o2 49 (.data (.bin .add) [.t 48, .c (.int .i64 (1))]) 13 true,
   o2 50 (.data (.bin .eql) [.t 41, .t 49]) 13 true,
   ⟨false, [], [], .pick 38 (.t 50) (.c (.bool false)), [51], (some 51), none⟩,
   o1 52 (.copy 51),
   o2 53 (.idx .nil) 27 true,
   o2 54 (.load 1 [] 14 (.t 53) 1 false) 27 true,
   o2 55 (.idx .nil) 27 true,
   o2 56 (.load 4 [] 0 (.t 55) 1 false) 27 true,
   ⟨false, [], [], .call 1 121 [.t 54, .t 56] .no, [57], (some 57), some (27, true)⟩,
   o2 58 (.data (.bin .lss) [.t 57, .c (.int .i64 (0))]) 27 true,
   ⟨false, [], [], .pick 52 (.t 58) (.c (.bool false)), [59], (some 59), none⟩,
   o1 2 (.copy 59)]))
 .ret))))))
def s_itaskOk : Sig := ⟨[.rd true [.d, .sl (.own none) [.d], .sl (.own none) [.d, .d], .sl (.own none) [.sl (.own none) [.d]], .sl (.own none) [.d], .d, .d, .d, .d, .d, .d, .d, .sl (.own none) [.d, .d], .d, .sl (.own none) [.d, .d, .d, .d, .d, .d]]], (.one false [.d])⟩
noncomputable def E_itaskOk : TEnv := envOf [(240, p_inoTask), (101, p_iin), (237, p_ibadAsk), (241, p_iOrderOk), (121, p_isaidAt)]
noncomputable def f_itaskOk (n : Nat) : (Int × List (Int) × List (Int × Int) × List (List (Int)) × List (Int) × Int × Int × Int × Int × Int × Int × Int × List (Int × Int) × Int × List (Int × Int × Int × Int × Int × Int)) → Option ((Bool) × Unit) := runFn n E_itaskOk c_itaskOk [[.i .i64, .sl [.i .i64], .sl [.i .i64, .i .i64], .sl [.sl [.i .i64]], .sl [.i .i64], .i .i64, .i .i64, .i .i64, .i .i64, .i .i64, .i .i64, .i .i64, .sl [.i .i64, .i .i64], .i .i64, .sl [.i .i64, .i .i64, .i .i64, .i .i64, .i .i64, .i .i64]]] [.b] [] [2] .no
noncomputable def g_itaskOk := f_itaskOk BIG
noncomputable def p_itaskOk : TSp := ⟨s_itaskOk, [[.i .i64, .sl [.i .i64], .sl [.i .i64, .i .i64], .sl [.sl [.i .i64]], .sl [.i .i64], .i .i64, .i .i64, .i .i64, .i .i64, .i .i64, .i .i64, .i .i64, .sl [.i .i64, .i .i64], .i .i64, .sl [.i .i64, .i .i64, .i .i64, .i .i64, .i .i64, .i .i64]]], [.b], [], Ou.j .no, g_itaskOk⟩
theorem k_itaskOk : chkW PG E_itaskOk 126 s_itaskOk (c_itaskOk.ht 60) .no = some (c_itaskOk.wc E_itaskOk, [2]) := by kernel_rfl
theorem ok_itaskOk : p_itaskOk.Ok PG 126 := mkOk (env_cons ok_inoTask (env_cons ok_iin (env_cons ok_ibadAsk (env_cons ok_iOrderOk (env_cons ok_isaidAt (env_nil PG)))))) k_itaskOk (by kernel_rfl)
theorem e_itaskOk (n : Nat) (a0 : Int × List (Int) × List (Int × Int) × List ((List (Int))) × List (Int) × Int × Int × Int × Int × Int × Int × Int × List (Int × Int) × Int × List (Int × Int × Int × Int × Int × Int)) : f_itaskOk n a0 =
  Option.bind (g_inoTask (a0.2.2.2.2.2.1, a0.2.2.2.2.2.2.1, a0.2.2.2.2.2.2.2.1, a0.2.2.2.2.2.2.2.2.1, a0.2.2.2.2.2.2.2.2.2.1, a0.2.2.2.2.2.2.2.2.2.2.1, a0.2.2.2.2.2.2.2.2.2.2.2.1, a0.2.2.2.2.2.2.2.2.2.2.2.2.1, a0.2.2.2.2.2.2.2.2.2.2.2.2.2.1)) fun r0 =>
  bif r0.1 then
   some (true, ())
  else Option.bind (Option.bind (g_iin (a0.2.2.2.2.2.1, (1 : Int), (100000 : Int))) fun r1 =>
   bif !r1.1 then
    some true
   else bif decide (a0.2.2.2.2.2.2.1 = (3 : Int)) then
    some true
   else Option.bind (g_ibadAsk (a0, (a0.2.2.2.2.2.1, a0.2.2.2.2.2.2.1, a0.2.2.2.2.2.2.2.1, a0.2.2.2.2.2.2.2.2.1))) fun r2 =>
   some r2.1 : Option (Bool)) fun x3 =>
  bif x3 then
   some (false, ())
  else Option.bind (Option.bind (g_iin (a0.2.2.2.2.2.2.2.2.2.1, (1 : Int), (a0.2.2.2.1.length : Int))) fun r4 =>
   bif r4.1 then
    Option.bind (g_iOrderOk (a0.1, (a0.2.2.2.2.2.2.2.2.2.2.1, a0.2.2.2.2.2.2.2.2.2.2.2.1, a0.2.2.2.2.2.2.2.2.2.2.2.2.1, a0.2.2.2.2.2.2.2.2.2.2.2.2.2.1))) fun r5 =>
    bif r5.1 then
     bnd a0.2.2.2.2.1.length (IntKind.wrap .i64 (a0.2.2.2.2.2.2.2.2.2.1 - (1 : Int))) fun n6 =>
     Option.bind a0.2.2.2.2.1[n6]? fun y7 =>
     bif decide (a0.2.2.2.2.2.2.2.2.2.2.1 = (IntKind.wrap .i64 (y7 + (1 : Int)))) then
      Option.bind (g_isaidAt (a0.2.2.2.2.2.2.2.2.2.2.2.2.2.2, a0.2.2.2.2.2.1)) fun r8 =>
      some (decide (r8.1 < (0 : Int)))
     else some false
    else some false
   else some false : Option (Bool)) fun x9 =>
  some (x9, ()) := by kernel_rfl
/- impl.HeadOk -/
def c_iHeadOk : TC :=
 (.seq (.rg [o1 1 (.a (.t 0)),
   o1 2 (.lit [.b] [.bool false])])
 (.seq (.seq (.join [⟨24, [.b], false⟩] 33554400 none (.rg [o1 5 (.idx .nil),
   o1 6 (.load 1 [] 0 (.t 5) 1 false),
   o3 7 101 [.t 6, .c [.i .i64] [.int .i64 (1)], .c [.i .i64] [.int .i64 (12)]],
   o1 8 (.data .not [.t 7]),
   o1 9 (.copy 8),
   o2 10 (.idx .nil) 4 false,
   o2 11 (.load 1 [] 3 (.t 10) 1 false) 4 false,
   o2 12 (.len 11) 4 false,
   ⟨false, [], [], .call 1 101 [.t 12, .c [.i .i64] [.int .i64 (1)], .c [.i .i64] [.int .i64 (3)]] .no, [13], (some 13), some (4, false)⟩,
   o2 14 (.data .not [.t 13]) 4 false,
   ⟨false, [], [], .pick 9 (.c (.bool true)) (.t 14), [15], (some 15), none⟩,
   o1 16 (.copy 15),
   o2 17 (.idx .nil) 11 false,
   o2 18 (.load 1 [] 4 (.t 17) 1 false) 11 false,
   o2 19 (.len 18) 11 false,
   o2 20 (.idx .nil) 11 false,
   o2 21 (.load 1 [] 3 (.t 20) 1 false) 11 false,
   o2 22 (.len 21) 11 false,
   o2 23 (.data (.bin .neq) [.t 19, .t 22]) 11 false,
   ⟨false, [], [], .pick 16 (.c (.bool true)) (.t 23), [24], (some 24), none⟩]))
 (.cond (.t 24)
  (.seq (.rg [o1 2 (.lit [.b] [.bool false])])
  .ret)
  .skip))
 (.seq (.join [] 281474943156252 (some [⟨2, [.b], false⟩]) (.seq (.rg [o1 25 (.idx .nil),
   o1 26 (.load 1 [] 3 (.t 25) 1 false),
   o1 27 (.len 26),
   o1 28 (.lit [.i .i64] [.int .i64 (0)])])
 (.block 0 (.loop [⟨28, [.i .i64], false⟩] 281474708275228
  (.seq (.rg [o1 29 (.data (.bin .lss) [.t 28, .t 27])])
  (.seq (.cond (.t 29)
   .skip
   (.exit 0))
  (.seq (.join [] 140736414613532 (some [⟨2, [.b], false⟩]) (.block 1 (.seq (.rg [o1 30 (.copy 28),
    o1 31 (.index 26 (.t 28)),
    o1 32 (.load 26 [(0, 1)] 0 (.t 31) 1 false),
    o1 3 (.copy 30),
    o1 4 (.copy 32)])
  (.seq (.join [⟨46, [.b], false⟩] 140728898420736 none (.rg [o1 33 (.idx .nil),
    o1 34 (.load 1 [] 0 (.t 33) 1 false),
    o1 35 (.copy 4),
    o3 36 123 [.t 34, .t 35],
    o1 37 (.data .not [.t 36]),
    o1 38 (.copy 37),
    o2 39 (.idx .nil) 5 false,
    o2 40 (.load 1 [] 4 (.t 39) 1 false) 5 false,
    o2 41 (.copy 3) 5 false,
    o2 42 (.index 40 (.t 41)) 5 false,
    o2 43 (.load 40 [(0, 1)] 0 (.t 42) 1 false) 5 false,
    ⟨false, [], [], .call 1 101 [.t 43, .c [.i .i64] [.int .i64 (0)], .c [.i .i64] [.int .i64 (99991)]] .no, [44], (some 44), some (5, false)⟩,
    o2 45 (.data .not [.t 44]) 5 false,
    ⟨false, [], [], .pick 38 (.c (.bool true)) (.t 45), [46], (some 46), none⟩]))
  (.cond (.t 46)
   (.seq (.rg [o1 2 (.lit [.b] [.bool false])])
   .ret)
   .skip)))))
  (.rg [o1 47 (.data (.bin .add) [.t 28, .c (.int .i64 (1))]),
    o1 28 (.copy 47)]))))))))
 (.seq (.join [⟨2, [.b], false⟩] 576179277326712836 none (.rg [o1 48 (.load 1 [] 0 .nil 15 false),
   o3 49 124 [.t 48],
   o1 50 (.copy 49),
   o2 51 (.idx .nil) 2 true,
   o2 52 (.load 1 [] 14 (.t 51) 1 false) 2 true,
   ⟨false, [], [], .call 1 125 [.t 52] .no, [53], (some 53), some (2, true)⟩,
   ⟨false, [], [], .pick 50 (.t 53) (.c (.bool false)), [54], (some 54), none⟩,
   o1 55 (.copy 54),
   o2 56 (.load 1 [] 0 .nil 15 false) 7 true,
   ⟨false, [], [], .call 1 126 [.t 56] .no, [57], (some 57), some (7, true)⟩,
   ⟨false, [], [], .pick 55 (.t 57) (.c (.bool false)), [58], (some 58), none⟩,
   o1 2 (.copy 58)]))
 .ret))))
def s_iHeadOk : Sig := ⟨[.rd true [.d, .sl (.own none) [.d], .sl (.own none) [.d, .d], .sl (.own none) [.sl (.own none) [.d]], .sl (.own none) [.d], .d, .d, .d, .d, .d, .d, .d, .sl (.own none) [.d, .d], .d, .sl (.own none) [.d, .d, .d, .d, .d, .d]]], (.one false [.d])⟩
noncomputable def E_iHeadOk : TEnv := envOf [(101, p_iin), (123, p_ilabelsOk), (124, p_iownOk), (125, p_isaidOk), (126, p_itaskOk)]
noncomputable def f_iHeadOk (n : Nat) : (Int × List (Int) × List (Int × Int) × List (List (Int)) × List (Int) × Int × Int × Int × Int × Int × Int × Int × List (Int × Int) × Int × List (Int × Int × Int × Int × Int × Int)) → Option ((Bool) × Unit) := runFn n E_iHeadOk c_iHeadOk [[.i .i64, .sl [.i .i64], .sl [.i .i64, .i .i64], .sl [.sl [.i .i64]], .sl [.i .i64], .i .i64, .i .i64, .i .i64, .i .i64, .i .i64, .i .i64, .i .i64, .sl [.i .i64, .i .i64], .i .i64, .sl [.i .i64, .i .i64, .i .i64, .i .i64, .i .i64, .i .i64]]] [.b] [] [2] .no
noncomputable def g_iHeadOk := f_iHeadOk BIG
noncomputable def p_iHeadOk : TSp := ⟨s_iHeadOk, [[.i .i64, .sl [.i .i64], .sl [.i .i64, .i .i64], .sl [.sl [.i .i64]], .sl [.i .i64], .i .i64, .i .i64, .i .i64, .i .i64, .i .i64, .i .i64, .i .i64, .sl [.i .i64, .i .i64], .i .i64, .sl [.i .i64, .i .i64, .i .i64, .i .i64, .i .i64, .i .i64]]], [.b], [], Ou.j .no, g_iHeadOk⟩
theorem k_iHeadOk : chkW PG E_iHeadOk 47 s_iHeadOk (c_iHeadOk.ht 59) .no = some (c_iHeadOk.wc E_iHeadOk, [2]) := by kernel_rfl
theorem ok_iHeadOk : p_iHeadOk.Ok PG 47 := mkOk (env_cons ok_iin (env_cons ok_ilabelsOk (env_cons ok_iownOk (env_cons ok_isaidOk (env_cons ok_itaskOk (env_nil PG)))))) k_iHeadOk (by kernel_rfl)
theorem e_iHeadOk (n : Nat) (a0 : Int × List (Int) × List (Int × Int) × List ((List (Int))) × List (Int) × Int × Int × Int × Int × Int × Int × Int × List (Int × Int) × Int × List (Int × Int × Int × Int × Int × Int)) : f_iHeadOk n a0 =
  Option.bind (Option.bind (g_iin (a0.1, (1 : Int), (12 : Int))) fun r0 =>
   bif !r0.1 then
    some true
   else Option.bind (g_iin ((a0.2.2.2.1.length : Int), (1 : Int), (3 : Int))) fun r1 =>
   bif !r1.1 then
    some true
   else some (!decide ((a0.2.2.2.2.1.length : Int) = (a0.2.2.2.1.length : Int))) : Option (Bool)) fun x2 =>
  bif x2 then
   some (false, ())
  else Option.bind (loopT n (X := Int) (B := (Unit) ⊕ (Bool)) (fun self4 x3 =>
    bif decide (x3 < (a0.2.2.2.1.length : Int)) then
     Option.bind (bnd a0.2.2.2.1.length x3 fun n5 =>
      Option.bind a0.2.2.2.1[n5]? fun y6 =>
      Option.bind (Option.bind (g_ilabelsOk (a0.1, y6)) fun r7 =>
       bif !r7.1 then
        some true
       else bnd a0.2.2.2.2.1.length x3 fun n8 =>
       Option.bind a0.2.2.2.2.1[n8]? fun y9 =>
       Option.bind (g_iin (y9, (0 : Int), (99991 : Int))) fun r10 =>
       some !r10.1 : Option (Bool)) fun x11 =>
      bif x11 then
       some (Sum.inr false)
      else some (Sum.inl ()) : Option ((Unit) ⊕ (Bool))) fun y => match y with
     | .inl x12 =>
      self4 (IntKind.wrap .i64 (x3 + (1 : Int)))
     | .inr x12 =>
      some (Sum.inr x12)
    else some (Sum.inl ())) (0 : Int) : Option ((Unit) ⊕ (Bool))) fun y => match y with
  | .inl x13 =>
   Option.bind (Option.bind (g_iownOk a0) fun r14 =>
    bif r14.1 then
     Option.bind (g_isaidOk a0.2.2.2.2.2.2.2.2.2.2.2.2.2.2) fun r15 =>
     bif r15.1 then
      Option.bind (g_itaskOk a0) fun r16 =>
      some r16.1
     else some false
    else some false : Option (Bool)) fun x17 =>
   some (x17, ())
  | .inr x13 =>
   some (x13, ()) := by kernel_rfl
/- impl.AnswerOk -/
def c_iAnswerOk : TC :=
 (.seq (.rg [o1 3 (.a (.t 1)),
   o1 4 (.lit [.b] [.bool false])])
 (.seq (.join [⟨4, [.b], false⟩] 16777200 none (.rg [o1 5 (.copy 0),
   o3 6 101 [.t 5, .c [.i .i64] [.int .i64 (1)], .c [.i .i64] [.int .i64 (12)]],
   o1 7 (.copy 6),
   o2 8 (.idx .nil) 2 true,
   o2 9 (.load 3 [] 0 (.t 8) 1 false) 2 true,
   ⟨false, [], [], .call 1 101 [.t 9, .c [.i .i64] [.int .i64 (1)], .c [.i .i64] [.int .i64 (100000)]] .no, [10], (some 10), some (2, true)⟩,
   ⟨false, [], [], .pick 7 (.t 10) (.c (.bool false)), [11], (some 11), none⟩,
   o1 12 (.copy 11),
   o2 13 (.copy 0) 7 true,
   o2 14 (.idx .nil) 7 true,
   o2 15 (.load 3 [] 2 (.t 14) 1 false) 7 true,
   ⟨false, [], [], .call 1 232 [.t 13, .t 15] .no, [16], (some 16), some (7, true)⟩,
   ⟨false, [], [], .pick 12 (.t 16) (.c (.bool false)), [17], (some 17), none⟩,
   o1 18 (.copy 17),
   o2 19 (.copy 0) 13 true,
   o2 20 (.idx .nil) 13 true,
   o2 21 (.load 3 [] 3 (.t 20) 1 false) 13 true,
   ⟨false, [], [], .call 1 123 [.t 19, .t 21] .no, [22], (some 22), some (13, true)⟩,
   ⟨false, [], [], .pick 18 (.t 22) (.c (.bool false)), [23], (some 23), none⟩,
   o1 4 (.copy 23)]))
 .ret))
def s_iAnswerOk : Sig := ⟨[.rd false [.d], .rd true [.d, .d, .sl (.own none) [.d, .d], .sl (.own none) [.d]]], (.one false [.d])⟩
noncomputable def E_iAnswerOk : TEnv := envOf [(101, p_iin), (232, p_iedgesOk), (123, p_ilabelsOk)]
noncomputable def f_iAnswerOk (n : Nat) : Int × (Int × Bool × List (Int × Int) × List (Int)) → Option ((Bool) × Unit) := runFn n E_iAnswerOk c_iAnswerOk [[.i .i64], [.i .i64, .b, .sl [.i .i64, .i .i64], .sl [.i .i64]]] [.b] [] [4] .no
noncomputable def g_iAnswerOk := f_iAnswerOk BIG
noncomputable def p_iAnswerOk : TSp := ⟨s_iAnswerOk, [[.i .i64], [.i .i64, .b, .sl [.i .i64, .i .i64], .sl [.i .i64]]], [.b], [], Ou.j .no, g_iAnswerOk⟩
theorem k_iAnswerOk : chkW PG E_iAnswerOk 136 s_iAnswerOk (c_iAnswerOk.ht 24) .no = some (c_iAnswerOk.wc E_iAnswerOk, [4]) := by kernel_rfl
theorem ok_iAnswerOk : p_iAnswerOk.Ok PG 136 := mkOk (env_cons ok_iin (env_cons ok_iedgesOk (env_cons ok_ilabelsOk (env_nil PG)))) k_iAnswerOk (by kernel_rfl)
theorem e_iAnswerOk (n : Nat) (a0 : Int) (a1 : Int × Bool × List (Int × Int) × List (Int)) : f_iAnswerOk n (a0, a1) =
  Option.bind (Option.bind (g_iin (a0, (1 : Int), (12 : Int))) fun r0 =>
   bif r0.1 then
    Option.bind (g_iin (a1.1, (1 : Int), (100000 : Int))) fun r1 =>
    bif r1.1 then
     Option.bind (g_iedgesOk (a0, a1.2.2.1)) fun r2 =>
     bif r2.1 then
      Option.bind (g_ilabelsOk (a0, a1.2.2.2)) fun r3 =>
      some r3.1
     else some false
    else some false
   else some false : Option (Bool)) fun x4 =>
  some (x4, ()) := by kernel_rfl
/- impl.Busy -/
def c_iBusy : TC :=
 (.seq (.rg [o1 1 (.a (.t 0)),
   o1 2 (.lit [.b] [.bool false])])
 (.seq (.rg [o1 3 (.idx .nil),
   o1 4 (.idx (.t 3)),
   o1 5 (.load 1 [] 9 (.t 4) 1 false),
   o1 6 (.data (.bin .neq) [.t 5, .c (.int .i64 (0))]),
   o1 2 (.copy 6)])
 .ret))
def s_iBusy : Sig := ⟨[.rd true [.d, .sl (.own none) [.d], .sl (.own none) [.d, .d], .sl (.own none) [.sl (.own none) [.d]], .sl (.own none) [.d], .d, .d, .d, .d, .d, .d, .d, .sl (.own none) [.d, .d], .d, .sl (.own none) [.d, .d, .d, .d, .d, .d]]], (.one false [.d])⟩
noncomputable def E_iBusy : TEnv := envOf []
noncomputable def f_iBusy (n : Nat) : (Int × List (Int) × List (Int × Int) × List (List (Int)) × List (Int) × Int × Int × Int × Int × Int × Int × Int × List (Int × Int) × Int × List (Int × Int × Int × Int × Int × Int)) → Option ((Bool) × Unit) := runFn n E_iBusy c_iBusy [[.i .i64, .sl [.i .i64], .sl [.i .i64, .i .i64], .sl [.sl [.i .i64]], .sl [.i .i64], .i .i64, .i .i64, .i .i64, .i .i64, .i .i64, .i .i64, .i .i64, .sl [.i .i64, .i .i64], .i .i64, .sl [.i .i64, .i .i64, .i .i64, .i .i64, .i .i64, .i .i64]]] [.b] [] [2] .no
noncomputable def g_iBusy := f_iBusy BIG
noncomputable def p_iBusy : TSp := ⟨s_iBusy, [[.i .i64, .sl [.i .i64], .sl [.i .i64, .i .i64], .sl [.sl [.i .i64]], .sl [.i .i64], .i .i64, .i .i64, .i .i64, .i .i64, .i .i64, .i .i64, .i .i64, .sl [.i .i64, .i .i64], .i .i64, .sl [.i .i64, .i .i64, .i .i64, .i .i64, .i .i64, .i .i64]]], [.b], [], Ou.j .no, g_iBusy⟩
theorem k_iBusy : chkW PG E_iBusy 48 s_iBusy (c_iBusy.ht 7) .no = some (c_iBusy.wc E_iBusy, [2]) := by kernel_rfl
theorem ok_iBusy : p_iBusy.Ok PG 48 := mkOk (env_nil PG) k_iBusy (by kernel_rfl)
theorem e_iBusy (n : Nat) (a0 : Int × List (Int) × List (Int × Int) × List ((List (Int))) × List (Int) × Int × Int × Int × Int × Int × Int × Int × List (Int × Int) × Int × List (Int × Int × Int × Int × Int × Int)) : f_iBusy n a0 =
  some (!decide (a0.2.2.2.2.2.2.2.2.2.1 = (0 : Int)), ()) := by kernel_rfl
/- impl.yesNo -/
def c_iyesNo : TC :=
 (.seq (.rg [o1 2 (.lit [.i .i64] [.int .i64 (0)])])
 (.seq (.seq (.rg [o1 3 (.copy 0)])
 (.cond (.t 3)
  (.seq (.rg [o1 2 (.lit [.i .i64] [.int .i64 (1)])])
  .ret)
  .skip))
 (.seq (.rg [o1 2 (.lit [.i .i64] [.int .i64 (2)])])
 .ret)))
def s_iyesNo : Sig := ⟨[.rd false [.d]], (.one false [.d])⟩
noncomputable def E_iyesNo : TEnv := envOf []
noncomputable def f_iyesNo (n : Nat) : Bool → Option ((Int) × Unit) := runFn n E_iyesNo c_iyesNo [[.b]] [.i .i64] [] [2] .no
noncomputable def g_iyesNo := f_iyesNo BIG
noncomputable def p_iyesNo : TSp := ⟨s_iyesNo, [[.b]], [.i .i64], [], Ou.j .no, g_iyesNo⟩
theorem k_iyesNo : chkW PG E_iyesNo 178 s_iyesNo (c_iyesNo.ht 4) .no = some (c_iyesNo.wc E_iyesNo, [2]) := by kernel_rfl
theorem ok_iyesNo : p_iyesNo.Ok PG 178 := mkOk (env_nil PG) k_iyesNo (by kernel_rfl)
theorem e_iyesNo (n : Nat) (a0 : Bool) : f_iyesNo n a0 =
  bif a0 then
   some ((1 : Int), ())
  else some ((2 : Int), ()) := by kernel_rfl
/- impl.Head).say -/
def c_iHead_say : TC :=
 (.seq (.rg [o1 4 (.a (.t 1)),
   o1 6 (.lit [.i .i64] [.int .i64 (0)])])
 (.seq (.rg [o1 7 (.p0),
   o1 8 (.p0),
   o1 9 (.same 8),
   o1 10 (.idx (.t 9)),
   o1 11 (.load 0 [] 14 (.t 10) 1 true),
   o1 12 (.idx .nil),
   o1 13 (.load 4 [] 0 (.t 12) 1 false),
   o1 14 (.load 4 [] 0 .nil 4 false),
   o1 15 (.copy 2),
   o1 16 (.build [.i .i64, .i .i64, .i .i64, .i .i64, .i .i64, .i .i64] [(0, .t 13), (1, .t 14), (5, .t 15)]),
   o1 17 (.sli [.i .i64, .i .i64, .i .i64, .i .i64, .i .i64, .i .i64] [.t 16]),
   ⟨false, [11], [], .det 2 (.app (some 11) 17), [18, 11, 11, 0], (some 18), none⟩,
   o1 19 (.same 7),
   o1 20 (.idx (.t 19)),
   o4 2 [0, 18, 11] (.store 0 [] 14 (.t 20) (.t 18))])
 (.seq (.rg [o1 6 (.lit [.i .i64] [.int .i64 (1)])])
 .ret)))
def s_iHead_say : Sig := ⟨[.mp [.d, .sl (.own none) [.d], .sl (.own none) [.d, .d], .sl (.own none) [.sl (.own none) [.d]], .sl (.own none) [.d], .d, .d, .d, .d, .d, .d, .d, .sl (.own none) [.d, .d], .d, .sl (.own none) [.d, .d, .d, .d, .d, .d]], .rd true [.d, .d, .d, .d], .rd false [.d]], (.one false [.d])⟩
noncomputable def E_iHead_say : TEnv := envOf []
noncomputable def f_iHead_say (n : Nat) : (Int × List (Int) × List (Int × Int) × List (List (Int)) × List (Int) × Int × Int × Int × Int × Int × Int × Int × List (Int × Int) × Int × List (Int × Int × Int × Int × Int × Int)) × (Int × Int × Int × Int) × Int → Option ((Int) × Int × List (Int) × List (Int × Int) × List (List (Int)) × List (Int) × Int × Int × Int × Int × Int × Int × Int × List (Int × Int) × Int × List (Int × Int × Int × Int × Int × Int)) := runFn n E_iHead_say c_iHead_say [[.i .i64, .sl [.i .i64], .sl [.i .i64, .i .i64], .sl [.sl [.i .i64]], .sl [.i .i64], .i .i64, .i .i64, .i .i64, .i .i64, .i .i64, .i .i64, .i .i64, .sl [.i .i64, .i .i64], .i .i64, .sl [.i .i64, .i .i64, .i .i64, .i .i64, .i .i64, .i .i64]], [.i .i64, .i .i64, .i .i64, .i .i64], [.i .i64]] [.i .i64] [.i .i64, .sl [.i .i64], .sl [.i .i64, .i .i64], .sl [.sl [.i .i64]], .sl [.i .i64], .i .i64, .i .i64, .i .i64, .i .i64, .i .i64, .i .i64, .i .i64, .sl [.i .i64, .i .i64], .i .i64, .sl [.i .i64, .i .i64, .i .i64, .i .i64, .i .i64, .i .i64]] [6] (.mp 0)
noncomputable def g_iHead_say := f_iHead_say BIG
noncomputable def p_iHead_say : TSp := ⟨s_iHead_say, [[.i .i64, .sl [.i .i64], .sl [.i .i64, .i .i64], .sl [.sl [.i .i64]], .sl [.i .i64], .i .i64, .i .i64, .i .i64, .i .i64, .i .i64, .i .i64, .i .i64, .sl [.i .i64, .i .i64], .i .i64, .sl [.i .i64, .i .i64, .i .i64, .i .i64, .i .i64, .i .i64]], [.i .i64, .i .i64, .i .i64, .i .i64], [.i .i64]], [.i .i64], [.i .i64, .sl [.i .i64], .sl [.i .i64, .i .i64], .sl [.sl [.i .i64]], .sl [.i .i64], .i .i64, .i .i64, .i .i64, .i .i64, .i .i64, .i .i64, .i .i64, .sl [.i .i64, .i .i64], .i .i64, .sl [.i .i64, .i .i64, .i .i64, .i .i64, .i .i64, .i .i64]], Ou.j (.mp 0), g_iHead_say⟩
theorem k_iHead_say : chkW PG E_iHead_say 177 s_iHead_say (c_iHead_say.ht 21) (.mp 0) = some (c_iHead_say.wc E_iHead_say, [6]) := by kernel_rfl
theorem ok_iHead_say : p_iHead_say.Ok PG 177 := mkOk (env_nil PG) k_iHead_say (by kernel_rfl)
theorem e_iHead_say (n : Nat) (a0 : Int × List (Int) × List (Int × Int) × List ((List (Int))) × List (Int) × Int × Int × Int × Int × Int × Int × Int × List (Int × Int) × Int × List (Int × Int × Int × Int × Int × Int)) (a1 : Int × Int × Int × Int) (a2 : Int) : f_iHead_say n (a0, a1, a2) =
  bif decide (a0.2.2.2.2.2.2.2.2.2.2.2.2.2.2.length + ([(a1.1, a1.1, a1.2.1, a1.2.2.1, a1.2.2.2, a2)]).length ≤ 4294967296) then
   some ((1 : Int), (a0.1, a0.2.1, a0.2.2.1, a0.2.2.2.1, a0.2.2.2.2.1, a0.2.2.2.2.2.1, a0.2.2.2.2.2.2.1, a0.2.2.2.2.2.2.2.1, a0.2.2.2.2.2.2.2.2.1, a0.2.2.2.2.2.2.2.2.2.1, a0.2.2.2.2.2.2.2.2.2.2.1, a0.2.2.2.2.2.2.2.2.2.2.2.1, a0.2.2.2.2.2.2.2.2.2.2.2.2.1, a0.2.2.2.2.2.2.2.2.2.2.2.2.2.1, a0.2.2.2.2.2.2.2.2.2.2.2.2.2.2 ++ ([(a1.1, a1.1, a1.2.1, a1.2.2.1, a1.2.2.2, a2)])))
  else none := by kernel_rfl
/- impl.hasEdge -/
def c_ihasEdge : TC :=
 (.seq (.rg [o1 3 (.a (.t 1)),
   o1 4 (.lit [.b] [.bool false])])
 (.seq (.join [] 131024 (some [⟨4, [.b], false⟩]) (.seq (.rg [o1 7 (.copy 0),
   o1 8 (.len 7),
   o1 9 (.lit [.i .i64] [.int .i64 (0)])])
 (.block 0 (.loop [⟨9, [.i .i64], false⟩] 130640
  (.seq (.rg [o1 10 (.data (.bin .lss) [.t 9, .t 8])])
  (.seq (.cond (.t 10)
   .skip
   (.exit 0))
  (.seq (.block 1 (.seq (.rg [o1 11 (.index 7 (.t 9)),
    o1 12 (.load 7 [(0, 2)] 0 (.t 11) 2 false),
    ⟨false, [], [], .det 2 (.a (.c [.i .i64, .i .i64] [.int .i64 (0), .int .i64 (0)])), [6, 1000000001], (some 6), none⟩,
    o4 1 [6] (.store 6 [] 0 .nil (.t 12))])
  (.seq (.rg [o1 13 (.load 6 [] 0 .nil 2 false),
    o1 14 (.load 3 [] 0 .nil 2 false),
    o1 15 (.eqA [.i, .i] (.t 13) (.t 14) false)])
  (.cond (.t 15)
   (.seq (.rg [o1 4 (.lit [.b] [.bool true])])
   .ret)
   .skip))))
  (.rg [o1 16 (.data (.bin .add) [.t 9, .c (.int .i64 (1))]),
    o1 9 (.copy 16)]))))))))
 (.seq (.rg [o1 4 (.lit [.b] [.bool false])])
 .ret)))
def s_ihasEdge : Sig := ⟨[.rd false [.sl (.own none) [.d, .d]], .rd true [.d, .d]], (.one false [.d])⟩
noncomputable def E_ihasEdge : TEnv := envOf []
noncomputable def f_ihasEdge (n : Nat) : (List (Int × Int)) × (Int × Int) → Option ((Bool) × Unit) := runFn n E_ihasEdge c_ihasEdge [[.sl [.i .i64, .i .i64]], [.i .i64, .i .i64]] [.b] [] [4] .no
noncomputable def g_ihasEdge := f_ihasEdge BIG
noncomputable def p_ihasEdge : TSp := ⟨s_ihasEdge, [[.sl [.i .i64, .i .i64]], [.i .i64, .i .i64]], [.b], [], Ou.j .no, g_ihasEdge⟩
theorem k_ihasEdge : chkW PG E_ihasEdge 118 s_ihasEdge (c_ihasEdge.ht 17) .no = some (c_ihasEdge.wc E_ihasEdge, [4]) := by kernel_rfl
theorem ok_ihasEdge : p_ihasEdge.Ok PG 118 := mkOk (env_nil PG) k_ihasEdge (by kernel_rfl)
theorem e_ihasEdge (n : Nat) (a0 : List (Int × Int)) (a1 : Int × Int) : f_ihasEdge n (a0, a1) =
  Option.bind (loopT n (X := Int) (B := (Unit) ⊕ (Bool)) (fun self1 x0 =>
    bif decide (x0 < (a0.length : Int)) then
     bnd a0.length x0 fun n2 =>
     Option.bind a0[n2]? fun y3 =>
     bif (decide (y3.1 = a1.1) && (decide (y3.2 = a1.2) && true)) then
      some (Sum.inr true)
     else self1 (IntKind.wrap .i64 (x0 + (1 : Int)))
    else some (Sum.inl ())) (0 : Int) : Option ((Unit) ⊕ (Bool))) fun y => match y with
  | .inl x4 =>
   some (false, ())
  | .inr x4 =>
   some (x4, ()) := by kernel_rfl
/- impl.withEdge -/
def c_iwithEdge : TC :=
 (.seq (.rg [o1 3 (.a (.t 1)),
   o1 4 (.lit [.sl [.i .i64, .i .i64]] [.slice none 0 0])])
 (.seq (.rg [o1 5 (.lit [.i .i64] [.int .i64 (0)])])
 (.seq (.join [⟨5, [.i .i64], false⟩] 1048544 none (.block 0 (.loop [⟨5, [.i .i64], false⟩] 1048544
  (.seq (.seq (.join [⟨17, [.b], false⟩] 262080 none (.rg [o1 6 (.copy 5),
    o1 7 (.copy 0),
    o1 8 (.len 7),
    o1 9 (.data (.bin .lss) [.t 6, .t 8]),
    o1 10 (.copy 9),
    o2 11 (.copy 0) 4 true,
    o2 12 (.copy 5) 4 true,
    o2 13 (.index 11 (.t 12)) 4 true,
    o2 14 (.load 11 [(0, 2)] 0 (.t 13) 2 false) 4 true,
    o2 15 (.load 3 [] 0 .nil 2 false) 4 true,
    ⟨false, [], [], .call 1 234 [.t 14, .t 15] .no, [16], (some 16), some (4, true)⟩,
    ⟨false, [], [], .pick 10 (.t 16) (.c (.bool false)), [17], (some 17), none⟩]))
  (.cond (.t 17)
   .skip
   (.exit 0)))
  (.block 1 (.rg [o1 18 (.copy 5),
    o1 19 (.data (.bin .add) [.t 18, .c (.int .i64 (1))]),
    o1 5 (.copy 19)]))))))
 (.seq (.rg [o1 20 (.copy 0),
   o1 21 (.copy 5),
   o1 22 (.res 20 none (some (.t 21))),
   o1 23 (.app none 22),
   o1 24 (.load 3 [] 0 .nil 2 false),
   o1 25 (.sli [.i .i64, .i .i64] [.t 24]),
   ⟨false, [], [], .det 2 (.app (some 23) 25), [26, 23], (some 26), none⟩,
   o1 27 (.copy 0),
   o1 28 (.copy 5),
   o1 29 (.res 27 (some (.t 28)) none),
   ⟨false, [], [], .det 2 (.app (some 26) 29), [30, 26], (some 30), none⟩,
   ⟨false, [], [], .det 2 (.copy 30), [4, 30], (some 4), none⟩])
 .ret))))
def s_iwithEdge : Sig := ⟨[.rd false [.sl (.own none) [.d, .d]], .rd true [.d, .d]], (.one false [.sl (.own none) [.d, .d]])⟩
noncomputable def E_iwithEdge : TEnv := envOf [(234, p_iahead)]
noncomputable def f_iwithEdge (n : Nat) : (List (Int × Int)) × (Int × Int) → Option ((List (Int × Int)) × Unit) := runFn n E_iwithEdge c_iwithEdge [[.sl [.i .i64, .i .i64]], [.i .i64, .i .i64]] [.sl [.i .i64, .i .i64]] [] [4] .no
noncomputable def g_iwithEdge := f_iwithEdge BIG
noncomputable def p_iwithEdge : TSp := ⟨s_iwithEdge, [[.sl [.i .i64, .i .i64]], [.i .i64, .i .i64]], [.sl [.i .i64, .i .i64]], [], Ou.j .no, g_iwithEdge⟩
theorem k_iwithEdge : chkW PG E_iwithEdge 119 s_iwithEdge (c_iwithEdge.ht 31) .no = some (c_iwithEdge.wc E_iwithEdge, [4]) := by kernel_rfl
theorem ok_iwithEdge : p_iwithEdge.Ok PG 119 := mkOk (env_cons ok_iahead (env_nil PG)) k_iwithEdge (by kernel_rfl)
theorem e_iwithEdge (n : Nat) (a0 : List (Int × Int)) (a1 : Int × Int) : f_iwithEdge n (a0, a1) =
  Option.bind (loopT n (X := Int) (B := Int) (fun self1 x0 =>
    Option.bind (bif decide (x0 < (a0.length : Int)) then
      bnd a0.length x0 fun n2 =>
      Option.bind a0[n2]? fun y3 =>
      Option.bind (g_iahead (y3, a1)) fun r4 =>
      some r4.1
     else some false : Option (Bool)) fun x5 =>
    bif x5 then
     self1 (IntKind.wrap .i64 (x0 + (1 : Int)))
    else some x0) (0 : Int) : Option (Int)) fun x6 =>
  bif decide (0 ≤ x6) then
   bif decide (0 ≤ (Int.toNat x6) ∧ (Int.toNat x6) ≤ a0.length) then
    bif decide ((List.take ((Int.toNat x6) - 0) (List.drop 0 a0)).length ≤ 4294967296) then
     bif decide ((List.take ((Int.toNat x6) - 0) (List.drop 0 a0)).length + [a1].length ≤ 4294967296) then
      bif decide (0 ≤ x6) then
       bif decide ((Int.toNat x6) ≤ a0.length ∧ a0.length ≤ a0.length) then
        bif decide (((List.take ((Int.toNat x6) - 0) (List.drop 0 a0)) ++ [a1]).length + (List.take (a0.length - (Int.toNat x6)) (List.drop (Int.toNat x6) a0)).length ≤ 4294967296) then
         some (((List.take ((Int.toNat x6) - 0) (List.drop 0 a0)) ++ [a1]) ++ (List.take (a0.length - (Int.toNat x6)) (List.drop (Int.toNat x6) a0)), ())
        else none
       else none
      else none
     else none
    else none
   else none
  else none := by kernel_rfl
/- impl.owns -/
def c_iowns : TC :=
 (.seq (.rg [o1 6 (.lit [.b] [.bool false])])
 (.seq (.join [⟨6, [.b], false⟩] 1048512 none (.rg [o1 7 (.copy 1),
   o1 8 (.copy 0),
   o1 9 (.len 8),
   o1 10 (.data (.bin .sub) [.t 9, .c (.int .i64 (1))]),
   o3 11 101 [.t 7, .c [.i .i64] [.int .i64 (0)], .t 10],
   o1 12 (.copy 11),
   o2 13 (.copy 0) 5 true,
   o2 14 (.copy 1) 5 true,
   o2 15 (.index 13 (.t 14)) 5 true,
   o2 16 (.load 13 [(0, 1)] 0 (.t 15) 1 false) 5 true,
   o2 17 (.copy 2) 5 true,
   o2 18 (.data (.bin .eql) [.t 16, .t 17]) 5 true,
   ⟨false, [], [], .pick 12 (.t 18) (.c (.bool false)), [19], (some 19), none⟩,
   o1 6 (.copy 19)]))
 .ret))
def s_iowns : Sig := ⟨[.rd false [.sl (.own none) [.d]], .rd false [.d], .rd false [.d]], (.one false [.d])⟩
noncomputable def E_iowns : TEnv := envOf [(101, p_iin)]
noncomputable def f_iowns (n : Nat) : List (Int) × Int × Int → Option ((Bool) × Unit) := runFn n E_iowns c_iowns [[.sl [.i .i64]], [.i .i64], [.i .i64]] [.b] [] [6] .no
noncomputable def g_iowns := f_iowns BIG
noncomputable def p_iowns : TSp := ⟨s_iowns, [[.sl [.i .i64]], [.i .i64], [.i .i64]], [.b], [], Ou.j .no, g_iowns⟩
theorem k_iowns : chkW PG E_iowns 97 s_iowns (c_iowns.ht 20) .no = some (c_iowns.wc E_iowns, [6]) := by kernel_rfl
theorem ok_iowns : p_iowns.Ok PG 97 := mkOk (env_cons ok_iin (env_nil PG)) k_iowns (by kernel_rfl)
theorem e_iowns (n : Nat) (a0 : List (Int)) (a1 : Int) (a2 : Int) : f_iowns n (a0, a1, a2) =
  Option.bind (Option.bind (g_iin (a1, (0 : Int), IntKind.wrap .i64 ((a0.length : Int) - (1 : Int)))) fun r0 =>
   bif r0.1 then
    bnd a0.length a1 fun n1 =>
    Option.bind a0[n1]? fun y2 =>
    some (decide (y2 = a2))
   else some false : Option (Bool)) fun x3 =>
  some (x3, ()) := by kernel_rfl
/- impl.Inside -/
def c_iInside : TC :=
 (.seq (.rg [o1 6 (.lit [.sl [.i .i64, .i .i64]] [.slice none 0 0])])
 (.seq (.rg [o1 7 (.lit [.sl [.i .i64, .i .i64]] [.slice none 0 0])])
 (.seq (.join [⟨7, [.sl [.i .i64, .i .i64]], false⟩] 8589934208 none (.seq (.rg [o1 10 (.copy 1),
   o1 11 (.len 10),
   o1 12 (.lit [.i .i64] [.int .i64 (0)])])
 (.block 0 (.loop [⟨7, [.sl [.i .i64, .i .i64]], false⟩, ⟨12, [.i .i64], false⟩] 8589931136
  (.seq (.rg [o1 13 (.data (.bin .lss) [.t 12, .t 11])])
  (.seq (.cond (.t 13)
   .skip
   (.exit 0))
  (.seq (.join [⟨7, [.sl [.i .i64, .i .i64]], false⟩] 4294951552 none (.block 1 (.seq (.rg [o1 14 (.index 10 (.t 12)),
    o1 15 (.load 10 [(0, 2)] 0 (.t 14) 2 false),
    ⟨false, [], [], .det 2 (.a (.c [.i .i64, .i .i64] [.int .i64 (0), .int .i64 (0)])), [9, 1000000001], (some 9), none⟩,
    o4 1 [9] (.store 9 [] 0 .nil (.t 15))])
  (.seq (.join [⟨27, [.b], false⟩] 268369920 none (.rg [o1 16 (.copy 0),
    o1 17 (.idx .nil),
    o1 18 (.load 9 [] 0 (.t 17) 1 false),
    o1 19 (.copy 2),
    o3 20 97 [.t 16, .t 18, .t 19],
    o1 21 (.copy 20),
    o2 22 (.copy 0) 5 true,
    o2 23 (.idx .nil) 5 true,
    o2 24 (.load 9 [] 1 (.t 23) 1 false) 5 true,
    o2 25 (.copy 2) 5 true,
    ⟨false, [], [], .call 1 97 [.t 22, .t 24, .t 25] .no, [26], (some 26), some (5, true)⟩,
    ⟨false, [], [], .pick 21 (.t 26) (.c (.bool false)), [27], (some 27), none⟩]))
  (.cond (.t 27)
   (.rg [⟨false, [], [], .det 2 (.copy 7), [28, 7], (some 28), none⟩,
     o1 29 (.load 9 [] 0 .nil 2 false),
     o1 30 (.sli [.i .i64, .i .i64] [.t 29]),
     ⟨false, [], [], .det 2 (.app (some 28) 30), [31, 28], (some 31), none⟩,
     ⟨false, [], [], .det 2 (.copy 31), [7, 31], (some 7), none⟩])
   .skip)))))
  (.rg [o1 32 (.data (.bin .add) [.t 12, .c (.int .i64 (1))]),
    o1 12 (.copy 32)]))))))))
 (.seq (.rg [⟨false, [], [], .det 2 (.copy 7), [33, 7], (some 33), none⟩,
   ⟨false, [], [], .det 2 (.copy 33), [6, 33], (some 6), none⟩])
 .ret))))
def s_iInside : Sig := ⟨[.rd false [.sl (.own none) [.d]], .rd false [.sl (.own none) [.d, .d]], .rd false [.d]], (.one false [.sl (.own none) [.d, .d]])⟩
noncomputable def E_iInside : TEnv := envOf [(97, p_iowns)]
noncomputable def f_iInside (n : Nat) : List (Int) × (List (Int × Int)) × Int → Option ((List (Int × Int)) × Unit) := runFn n E_iInside c_iInside [[.sl [.i .i64]], [.sl [.i .i64, .i .i64]], [.i .i64]] [.sl [.i .i64, .i .i64]] [] [6] .no
noncomputable def g_iInside := f_iInside BIG
noncomputable def p_iInside : TSp := ⟨s_iInside, [[.sl [.i .i64]], [.sl [.i .i64, .i .i64]], [.i .i64]], [.sl [.i .i64, .i .i64]], [], Ou.j .no, g_iInside⟩
theorem k_iInside : chkW PG E_iInside 19 s_iInside (c_iInside.ht 34) .no = some (c_iInside.wc E_iInside, [6]) := by kernel_rfl
theorem ok_iInside : p_iInside.Ok PG 19 := mkOk (env_cons ok_iowns (env_nil PG)) k_iInside (by kernel_rfl)
theorem e_iInside (n : Nat) (a0 : List (Int)) (a1 : List (Int × Int)) (a2 : Int) : f_iInside n (a0, a1, a2) =
  Option.bind (loopT n (X := (List (Int × Int)) × Int) (B := (List (Int × Int))) (fun self1 x0 =>
    bif decide (x0.2 < (a1.length : Int)) then
     Option.bind (bnd a1.length x0.2 fun n2 =>
      Option.bind a1[n2]? fun y3 =>
      Option.bind (Option.bind (g_iowns (a0, y3.1, a2)) fun r4 =>
       bif r4.1 then
        Option.bind (g_iowns (a0, y3.2, a2)) fun r5 =>
        some r5.1
       else some false : Option (Bool)) fun x6 =>
      bif x6 then
       bif decide (x0.1.length + [y3].length ≤ 4294967296) then
        some (x0.1 ++ [y3])
       else none
      else some x0.1 : Option ((List (Int × Int)))) fun x7 =>
     self1 (x7, IntKind.wrap .i64 (x0.2 + (1 : Int)))
    else some x0.1) ([], (0 : Int)) : Option ((List (Int × Int)))) fun x8 =>
  some (x8, ()) := by kernel_rfl
/- impl.withoutEdge -/
def c_iwithoutEdge : TC :=
 (.seq (.rg [o1 3 (.a (.t 1)),
   o1 4 (.lit [.sl [.i .i64, .i .i64]] [.slice none 0 0])])
 (.seq (.rg [o1 5 (.lit [.sl [.i .i64, .i .i64]] [.slice none 0 0])])
 (.seq (.join [⟨5, [.sl [.i .i64, .i .i64]], false⟩] 4194208 none (.seq (.rg [o1 8 (.copy 0),
   o1 9 (.len 8),
   o1 10 (.lit [.i .i64] [.int .i64 (0)])])
 (.block 0 (.loop [⟨5, [.sl [.i .i64, .i .i64]], false⟩, ⟨10, [.i .i64], false⟩] 4193440
  (.seq (.rg [o1 11 (.data (.bin .lss) [.t 10, .t 9])])
  (.seq (.cond (.t 11)
   .skip
   (.exit 0))
  (.seq (.join [⟨5, [.sl [.i .i64, .i .i64]], false⟩] 2093216 none (.block 1 (.seq (.rg [o1 12 (.index 8 (.t 10)),
    o1 13 (.load 8 [(0, 2)] 0 (.t 12) 2 false),
    ⟨false, [], [], .det 2 (.a (.c [.i .i64, .i .i64] [.int .i64 (0), .int .i64 (0)])), [7, 1000000001], (some 7), none⟩,
    o4 1 [7] (.store 7 [] 0 .nil (.t 13))])
  (.seq (.rg [o1 14 (.load 7 [] 0 .nil 2 false),
    o1 15 (.load 3 [] 0 .nil 2 false),
    o1 16 (.eqA [.i, .i] (.t 14) (.t 15) true)])
  (.cond (.t 16)
   (.rg [⟨false, [], [], .det 2 (.copy 5), [17, 5], (some 17), none⟩,
     o1 18 (.load 7 [] 0 .nil 2 false),
     o1 19 (.sli [.i .i64, .i .i64] [.t 18]),
     ⟨false, [], [], .det 2 (.app (some 17) 19), [20, 17], (some 20), none⟩,
     ⟨false, [], [], .det 2 (.copy 20), [5, 20], (some 5), none⟩])
   .skip)))))
  (.rg [o1 21 (.data (.bin .add) [.t 10, .c (.int .i64 (1))]),
    o1 10 (.copy 21)]))))))))
 (.seq (.rg [⟨false, [], [], .det 2 (.copy 5), [22, 5], (some 22), none⟩,
   ⟨false, [], [], .det 2 (.copy 22), [4, 22], (some 4), none⟩])
 .ret))))
def s_iwithoutEdge : Sig := ⟨[.rd false [.sl (.own none) [.d, .d]], .rd true [.d, .d]], (.one false [.sl (.own none) [.d, .d]])⟩
noncomputable def E_iwithoutEdge : TEnv := envOf []
noncomputable def f_iwithoutEdge (n : Nat) : (List (Int × Int)) × (Int × Int) → Option ((List (Int × Int)) × Unit) := runFn n E_iwithoutEdge c_iwithoutEdge [[.sl [.i .i64, .i .i64]], [.i .i64, .i .i64]] [.sl [.i .i64, .i .i64]] [] [4] .no
noncomputable def g_iwithoutEdge := f_iwithoutEdge BIG
noncomputable def p_iwithoutEdge : TSp := ⟨s_iwithoutEdge, [[.sl [.i .i64, .i .i64]], [.i .i64, .i .i64]], [.sl [.i .i64, .i .i64]], [], Ou.j .no, g_iwithoutEdge⟩
theorem k_iwithoutEdge : chkW PG E_iwithoutEdge 287 s_iwithoutEdge (c_iwithoutEdge.ht 23) .no = some (c_iwithoutEdge.wc E_iwithoutEdge, [4]) := by kernel_rfl
theorem ok_iwithoutEdge : p_iwithoutEdge.Ok PG 287 := mkOk (env_nil PG) k_iwithoutEdge (by kernel_rfl)
theorem e_iwithoutEdge (n : Nat) (a0 : List (Int × Int)) (a1 : Int × Int) : f_iwithoutEdge n (a0, a1) =
  Option.bind (loopT n (X := (List (Int × Int)) × Int) (B := (List (Int × Int))) (fun self1 x0 =>
    bif decide (x0.2 < (a0.length : Int)) then
     Option.bind (bnd a0.length x0.2 fun n2 =>
      Option.bind a0[n2]? fun y3 =>
      bif !(decide (y3.1 = a1.1) && (decide (y3.2 = a1.2) && true)) then
       bif decide (x0.1.length + [y3].length ≤ 4294967296) then
        some (x0.1 ++ [y3])
       else none
      else some x0.1 : Option ((List (Int × Int)))) fun x4 =>
     self1 (x4, IntKind.wrap .i64 (x0.2 + (1 : Int)))
    else some x0.1) ([], (0 : Int)) : Option ((List (Int × Int)))) fun x5 =>
  some (x5, ()) := by kernel_rfl
/- impl.Head).order -/
def c_iHead_order : TC :=
 (.seq (.rg [o1 5 (.a (.t 1)),
   ⟨false, [], [], .det 2 (.a (.t 3)), [7, 3], (some 7), none⟩,
   o1 8 (.lit [.i .i64] [.int .i64 (0)])])
 (.seq (.rg [o1 9 (.p0),
   o1 10 (.same 9),
   o1 11 (.idx (.t 10)),
   o1 12 (.load 0 [] 4 (.t 11) 1 true),
   o1 13 (.copy 2),
   o1 14 (.data (.bin .sub) [.t 13, .c (.int .i64 (1))]),
   o1 15 (.index 12 (.t 14)),
   o1 16 (.load 0 [(4, 1)] 0 (.t 15) 1 false),
   o1 17 (.data (.bin .add) [.t 16, .c (.int .i64 (1))]),
   o1 18 (.idx .nil),
   o4 1 [7] (.store 7 [] 0 (.t 18) (.t 17))])
 (.seq (.rg [o1 19 (.p0),
   o1 20 (.load 5 [] 0 .nil 4 false),
   o1 21 (.copy 2),
   o1 22 (.load 7 [] 0 .nil 4 true),
   ⟨false, [22], [], .det 2 (.build [.i .i64, .i .i64, .i .i64, .i .i64, .i .i64, .i .i64, .i .i64, .sl [.i .i64, .i .i64], .i .i64] [(0, .t 20), (4, .t 21), (5, .t 22)]), [23, 22, 22, 7], (some 23), none⟩,
   o1 24 (.same 19),
   o1 25 (.idx (.t 24)),
   o4 2 [0, 23, 12, 15] (.store 0 [] 5 (.t 25) (.t 23))])
 (.seq (.rg [o1 8 (.lit [.i .i64] [.int .i64 (2)])])
 .ret))))
def s_iHead_order : Sig := ⟨[.mp [.d, .sl (.own none) [.d], .sl (.own none) [.d, .d], .sl (.own none) [.sl (.own none) [.d]], .sl (.own none) [.d], .d, .d, .d, .d, .d, .d, .d, .sl (.own none) [.d, .d], .d, .sl (.own none) [.d, .d, .d, .d, .d, .d]], .rd true [.d, .d, .d, .d], .rd false [.d], .tk true [.d, .d, .sl (.own none) [.d, .d], .d]], (.one false [.d])⟩
noncomputable def E_iHead_order : TEnv := envOf []
noncomputable def f_iHead_order (n : Nat) : (Int × List (Int) × List (Int × Int) × List (List (Int)) × List (Int) × Int × Int × Int × Int × Int × Int × Int × List (Int × Int) × Int × List (Int × Int × Int × Int × Int × Int)) × (Int × Int × Int × Int) × Int × (Int × Int × List (Int × Int) × Int) → Option ((Int) × Int × List (Int) × List (Int × Int) × List (List (Int)) × List (Int) × Int × Int × Int × Int × Int × Int × Int × List (Int × Int) × Int × List (Int × Int × Int × Int × Int × Int)) := runFn n E_iHead_order c_iHead_order [[.i .i64, .sl [.i .i64], .sl [.i .i64, .i .i64], .sl [.sl [.i .i64]], .sl [.i .i64], .i .i64, .i .i64, .i .i64, .i .i64, .i .i64, .i .i64, .i .i64, .sl [.i .i64, .i .i64], .i .i64, .sl [.i .i64, .i .i64, .i .i64, .i .i64, .i .i64, .i .i64]], [.i .i64, .i .i64, .i .i64, .i .i64], [.i .i64], [.i .i64, .i .i64, .sl [.i .i64, .i .i64], .i .i64]] [.i .i64] [.i .i64, .sl [.i .i64], .sl [.i .i64, .i .i64], .sl [.sl [.i .i64]], .sl [.i .i64], .i .i64, .i .i64, .i .i64, .i .i64, .i .i64, .i .i64, .i .i64, .sl [.i .i64, .i .i64], .i .i64, .sl [.i .i64, .i .i64, .i .i64, .i .i64, .i .i64, .i .i64]] [8] (.mp 0)
noncomputable def g_iHead_order := f_iHead_order BIG
noncomputable def p_iHead_order : TSp := ⟨s_iHead_order, [[.i .i64, .sl [.i .i64], .sl [.i .i64, .i .i64], .sl [.sl [.i .i64]], .sl [.i .i64], .i .i64, .i .i64, .i .i64, .i .i64, .i .i64, .i .i64, .i .i64, .sl [.i .i64, .i .i64], .i .i64, .sl [.i .i64, .i .i64, .i .i64, .i .i64, .i .i64, .i .i64]], [.i .i64, .i .i64, .i .i64, .i .i64], [.i .i64], [.i .i64, .i .i64, .sl [.i .i64, .i .i64], .i .i64]], [.i .i64], [.i .i64, .sl [.i .i64], .sl [.i .i64, .i .i64], .sl [.sl [.i .i64]], .sl [.i .i64], .i .i64, .i .i64, .i .i64, .i .i64, .i .i64, .i .i64, .i .i64, .sl [.i .i64, .i .i64], .i .i64, .sl [.i .i64, .i .i64, .i .i64, .i .i64, .i .i64, .i .i64]], Ou.j (.mp 0), g_iHead_order⟩
theorem k_iHead_order : chkW PG E_iHead_order 238 s_iHead_order (c_iHead_order.ht 26) (.mp 0) = some (c_iHead_order.wc E_iHead_order, [8]) := by kernel_rfl
theorem ok_iHead_order : p_iHead_order.Ok PG 238 := mkOk (env_nil PG) k_iHead_order (by kernel_rfl)
theorem e_iHead_order (n : Nat) (a0 : Int × List (Int) × List (Int × Int) × List ((List (Int))) × List (Int) × Int × Int × Int × Int × Int × Int × Int × List (Int × Int) × Int × List (Int × Int × Int × Int × Int × Int)) (a1 : Int × Int × Int × Int) (a2 : Int) (a3 : Int × Int × List (Int × Int) × Int) : f_iHead_order n (a0, a1, a2, a3) =
  bnd a0.2.2.2.2.1.length (IntKind.wrap .i64 (a2 - (1 : Int))) fun n0 =>
  Option.bind a0.2.2.2.2.1[n0]? fun y1 =>
  some ((2 : Int), (a0.1, a0.2.1, a0.2.2.1, a0.2.2.2.1, a0.2.2.2.2.1, a1.1, a1.2.1, a1.2.2.1, a1.2.2.2, a2, IntKind.wrap .i64 (y1 + (1 : Int)), a3.2.1, a3.2.2.1, a3.2.2.2, a0.2.2.2.2.2.2.2.2.2.2.2.2.2.2)) := by kernel_rfl
/- impl.Head).released -/
def c_iHead_released : TC :=
 (.seq (.rg [o1 4 (.a (.t 1)),
   o1 6 (.lit [.i .i64] [.int .i64 (0)])])
 (.seq (.join [⟨0, [.i .i64, .sl [.i .i64], .sl [.i .i64, .i .i64], .sl [.sl [.i .i64]], .sl [.i .i64], .i .i64, .i .i64, .i .i64, .i .i64, .i .i64, .i .i64, .i .i64, .sl [.i .i64, .i .i64], .i .i64, .sl [.i .i64, .i .i64, .i .i64, .i .i64, .i .i64, .i .i64]], false⟩] 1073725761 (some [⟨6, [.i .i64], false⟩, ⟨0, [.i .i64, .sl [.i .i64], .sl [.i .i64, .i .i64], .sl [.sl [.i .i64]], .sl [.i .i64], .i .i64, .i .i64, .i .i64, .i .i64, .i .i64, .i .i64, .i .i64, .sl [.i .i64, .i .i64], .i .i64, .sl [.i .i64, .i .i64, .i .i64, .i .i64, .i .i64, .i .i64]], false⟩]) (.seq (.rg [o1 14 (.copy 2),
   o1 15 (.len 14),
   o1 16 (.lit [.i .i64] [.int .i64 (0)])])
 (.block 0 (.loop [⟨0, [.i .i64, .sl [.i .i64], .sl [.i .i64, .i .i64], .sl [.sl [.i .i64]], .sl [.i .i64], .i .i64, .i .i64, .i .i64, .i .i64, .i .i64, .i .i64, .i .i64, .sl [.i .i64, .i .i64], .i .i64, .sl [.i .i64, .i .i64, .i .i64, .i .i64, .i .i64, .i .i64]], false⟩, ⟨16, [.i .i64], false⟩] 1073676609
  (.seq (.rg [o1 17 (.data (.bin .lss) [.t 16, .t 15])])
  (.seq (.cond (.t 17)
   .skip
   (.exit 0))
  (.seq (.block 1 (.seq (.rg [o1 18 (.index 14 (.t 16)),
    o1 19 (.load 14 [(0, 2)] 0 (.t 18) 2 false),
    ⟨false, [], [], .det 2 (.a (.c [.i .i64, .i .i64] [.int .i64 (0), .int .i64 (0)])), [8, 1000000001], (some 8), none⟩,
    o4 1 [8] (.store 8 [] 0 .nil (.t 19))])
  (.seq (.rg [o1 20 (.p0),
    o1 21 (.same 20),
    o1 22 (.idx (.t 21)),
    o1 23 (.load 0 [] 2 (.t 22) 1 true),
    o1 24 (.load 8 [] 0 .nil 2 false),
    o3 25 118 [.t 23, .t 24]])
  (.cond (.t 25)
   (.seq (.rg [o1 26 (.p0),
     o1 27 (.load 4 [] 0 .nil 4 false),
     ⟨false, [], [], .call 2 177 [.t 0, .t 27, .c [.i .i64] [.int .i64 (3)]] (.mp 0), [28, 0, 23], (some 28), none⟩,
     o1 6 (.copy 28)])
   .ret)
   .skip))))
  (.rg [o1 29 (.data (.bin .add) [.t 16, .c (.int .i64 (1))]),
    o1 16 (.copy 29)]))))))))
 (.seq (.seq (.join [⟨49, [.b], false⟩] 1125898833100800 none (.rg [o1 30 (.idx .nil),
   o1 31 (.load 4 [] 2 (.t 30) 1 false),
   o1 32 (.p0),
   o1 33 (.same 32),
   o1 34 (.idx (.t 33)),
   o1 35 (.load 0 [] 0 (.t 34) 1 false),
   o1 36 (.data (.bin .sub) [.t 35, .c (.int .i64 (1))]),
   o3 37 101 [.t 31, .c [.i .i64] [.int .i64 (0)], .t 36],
   o1 38 (.data .not [.t 37]),
   o1 39 (.copy 38),
   o2 40 (.idx .nil) 9 false,
   o2 41 (.load 4 [] 3 (.t 40) 1 false) 9 false,
   o2 42 (.p0) 9 false,
   o2 43 (.same 42) 9 false,
   o2 44 (.idx (.t 43)) 9 false,
   o2 45 (.load 0 [] 3 (.t 44) 1 true) 9 false,
   o2 46 (.len 45) 9 false,
   ⟨false, [], [], .call 1 101 [.t 41, .c [.i .i64] [.int .i64 (1)], .t 46] .no, [47], (some 47), some (9, false)⟩,
   o2 48 (.data .not [.t 47]) 9 false,
   ⟨false, [], [], .pick 39 (.c (.bool true)) (.t 48), [49], (some 49), none⟩]))
 (.cond (.t 49)
  (.seq (.rg [o1 50 (.p0),
    o1 51 (.load 4 [] 0 .nil 4 false),
    ⟨false, [], [], .call 2 177 [.t 0, .t 51, .c [.i .i64] [.int .i64 (3)]] (.mp 0), [52, 0], (some 52), none⟩,
    o1 6 (.copy 52)])
  .ret)
  .skip))
 (.seq (.join [⟨0, [.i .i64, .sl [.i .i64], .sl [.i .i64, .i .i64], .sl [.sl [.i .i64]], .sl [.i .i64], .i .i64, .i .i64, .i .i64, .i .i64, .i .i64, .i .i64, .i .i64, .sl [.i .i64, .i .i64], .i .i64, .sl [.i .i64, .i .i64, .i .i64, .i .i64, .i .i64, .i .i64]], false⟩] 590286803159450911745 none (.seq (.rg [o1 53 (.copy 2),
   o1 54 (.len 53),
   o1 55 (.lit [.i .i64] [.int .i64 (0)])])
 (.block 2 (.loop [⟨0, [.i .i64, .sl [.i .i64], .sl [.i .i64, .i .i64], .sl [.sl [.i .i64]], .sl [.i .i64], .i .i64, .i .i64, .i .i64, .i .i64, .i .i64, .i .i64, .i .i64, .sl [.i .i64, .i .i64], .i .i64, .sl [.i .i64, .i .i64, .i .i64, .i .i64, .i .i64, .i .i64]], false⟩, ⟨55, [.i .i64], false⟩] 590259781561686688769
  (.seq (.rg [o1 56 (.data (.bin .lss) [.t 55, .t 54])])
  (.seq (.cond (.t 56)
   .skip
   (.exit 2))
  (.seq (.block 3 (.seq (.rg [o1 57 (.index 53 (.t 55)),
    o1 58 (.load 53 [(0, 2)] 0 (.t 57) 2 false),
    ⟨false, [], [], .det 2 (.a (.c [.i .i64, .i .i64] [.int .i64 (0), .int .i64 (0)])), [10, 1000000001], (some 10), none⟩,
    o4 1 [10] (.store 10 [] 0 .nil (.t 58))])
  (.rg [o1 59 (.p0),
    o1 60 (.p0),
    o1 61 (.same 60),
    o1 62 (.idx (.t 61)),
    o1 63 (.load 0 [] 2 (.t 62) 1 true),
    o1 64 (.load 10 [] 0 .nil 2 false),
    o3 65 119 [.t 63, .t 64],
    o1 66 (.same 59),
    o1 67 (.idx (.t 66)),
    o4 2 [0, 65, 63] (.store 0 [] 2 (.t 67) (.t 65))])))
  (.rg [o1 68 (.data (.bin .add) [.t 55, .c (.int .i64 (1))]),
    o1 55 (.copy 68)]))))))))
 (.seq (.rg [o1 69 (.p0),
   o1 70 (.same 69),
   o1 71 (.idx (.t 70)),
   o1 72 (.load 0 [] 1 (.t 71) 1 true),
   o1 73 (.idx .nil),
   o1 74 (.load 4 [] 2 (.t 73) 1 false),
   o1 75 (.idx .nil),
   o1 76 (.load 4 [] 3 (.t 75) 1 false),
   o1 77 (.index 72 (.t 74)),
   o4 1 [0, 72] (.store 0 [(1, 1)] 0 (.t 77) (.t 76))])
 (.seq (.rg [o1 78 (.p0),
   o1 79 (.same 78),
   o1 80 (.idx (.t 79)),
   o1 81 (.load 0 [] 1 (.t 80) 1 true),
   o1 82 (.p0),
   o1 83 (.same 82),
   o1 84 (.idx (.t 83)),
   o1 85 (.load 0 [] 2 (.t 84) 1 true),
   o1 86 (.idx .nil),
   o1 87 (.load 4 [] 3 (.t 86) 1 false),
   o3 88 19 [.t 81, .t 85, .t 87],
   ⟨false, [], [], .det 2 (.copy 88), [11, 88], (some 11), none⟩])
 (.seq (.seq (.rg [⟨true, [], [], .det 1 (.copy 11), [89], (some 89), none⟩,
   o1 90 (.len 89),
   o1 91 (.data (.bin .eql) [.t 90, .c (.int .i64 (0))])])
 (.cond (.t 91)
  (.seq (.rg [o1 92 (.p0),
    o1 93 (.load 4 [] 0 .nil 4 false),
    ⟨false, [], [], .call 2 177 [.t 0, .t 93, .c [.i .i64] [.int .i64 (1)]] (.mp 0), [94, 0, 77, 81, 85], (some 94), none⟩,
    o1 6 (.copy 94)])
  .ret)
  .skip))
 (.seq (.join [⟨0, [.i .i64, .sl [.i .i64], .sl [.i .i64, .i .i64], .sl [.sl [.i .i64]], .sl [.i .i64], .i .i64, .i .i64, .i .i64, .i .i64, .i .i64, .i .i64, .i .i64, .sl [.i .i64, .i .i64], .i .i64, .sl [.i .i64, .i .i64, .i .i64, .i .i64, .i .i64, .i .i64]], false⟩] 2596108815186156682096451392643073 none (.seq (.rg [⟨true, [], [], .det 1 (.copy 11), [95], (some 95), none⟩,
   o1 96 (.len 95),
   o1 97 (.lit [.i .i64] [.int .i64 (0)])])
 (.block 4 (.loop [⟨0, [.i .i64, .sl [.i .i64], .sl [.i .i64, .i .i64], .sl [.sl [.i .i64]], .sl [.i .i64], .i .i64, .i .i64, .i .i64, .i .i64, .i .i64, .i .i64, .i .i64, .sl [.i .i64, .i .i64], .i .i64, .sl [.i .i64, .i .i64, .i .i64, .i .i64, .i .i64, .i .i64]], false⟩, ⟨97, [.i .i64], false⟩] 2595990014196978879939281663565825
  (.seq (.rg [o1 98 (.data (.bin .lss) [.t 97, .t 96])])
  (.seq (.cond (.t 98)
   .skip
   (.exit 4))
  (.seq (.block 5 (.seq (.rg [o1 99 (.index 95 (.t 97)),
    o1 100 (.load 11 [(0, 2)] 0 (.t 99) 2 false),
    ⟨false, [], [], .det 2 (.a (.c [.i .i64, .i .i64] [.int .i64 (0), .int .i64 (0)])), [13, 1000000001], (some 13), none⟩,
    o4 1 [13] (.store 13 [] 0 .nil (.t 100))])
  (.rg [o1 101 (.p0),
    o1 102 (.p0),
    o1 103 (.same 102),
    o1 104 (.idx (.t 103)),
    o1 105 (.load 0 [] 2 (.t 104) 1 true),
    o1 106 (.load 13 [] 0 .nil 2 false),
    o3 107 287 [.t 105, .t 106],
    o1 108 (.same 101),
    o1 109 (.idx (.t 108)),
    o4 2 [0, 107, 105] (.store 0 [] 2 (.t 109) (.t 107))])))
  (.rg [o1 110 (.data (.bin .add) [.t 97, .c (.int .i64 (1))]),
    o1 97 (.copy 110)]))))))))
 (.seq (.rg [o1 111 (.p0),
   o1 112 (.load 4 [] 0 .nil 4 false),
   o1 113 (.idx .nil),
   o1 114 (.load 4 [] 3 (.t 113) 1 false),
   ⟨false, [], [], .det 2 (.copy 11), [115, 11, 89, 95], (some 115), none⟩,
   ⟨false, [], [], .det 3 (.build [.i .i64, .i .i64, .sl [.i .i64, .i .i64], .i .i64] [(1, .c [.i .i64] [.int .i64 (4)]), (2, .t 115)]), [116, 1000000002, 115], (some 116), none⟩,
   ⟨false, [], [], .call 3 238 [.t 0, .t 112, .t 114, .t 116] (.mp 0), [117, 0, 116], (some 117), none⟩,
   o1 6 (.copy 117)])
 .ret)))))))))
def s_iHead_released : Sig := ⟨[.mp [.d, .sl (.own none) [.d], .sl (.own none) [.d, .d], .sl (.own none) [.sl (.own none) [.d]], .sl (.own none) [.d], .d, .d, .d, .d, .d, .d, .d, .sl (.own none) [.d, .d], .d, .sl (.own none) [.d, .d, .d, .d, .d, .d]], .rd true [.d, .d, .d, .d], .rd false [.sl (.own none) [.d, .d]]], (.one false [.d])⟩
noncomputable def E_iHead_released : TEnv := envOf [(118, p_ihasEdge), (177, p_iHead_say), (101, p_iin), (119, p_iwithEdge), (19, p_iInside), (287, p_iwithoutEdge), (238, p_iHead_order)]
noncomputable def f_iHead_released (n : Nat) : (Int × List (Int) × List (Int × Int) × List (List (Int)) × List (Int) × Int × Int × Int × Int × Int × Int × Int × List (Int × Int) × Int × List (Int × Int × Int × Int × Int × Int)) × (Int × Int × Int × Int) × (List (Int × Int)) → Option ((Int) × Int × List (Int) × List (Int × Int) × List (List (Int)) × List (Int) × Int × Int × Int × Int × Int × Int × Int × List (Int × Int) × Int × List (Int × Int × Int × Int × Int × Int)) := runFn n E_iHead_released c_iHead_released [[.i .i64, .sl [.i .i64], .sl [.i .i64, .i .i64], .sl [.sl [.i .i64]], .sl [.i .i64], .i .i64, .i .i64, .i .i64, .i .i64, .i .i64, .i .i64, .i .i64, .sl [.i .i64, .i .i64], .i .i64, .sl [.i .i64, .i .i64, .i .i64, .i .i64, .i .i64, .i .i64]], [.i .i64, .i .i64, .i .i64, .i .i64], [.sl [.i .i64, .i .i64]]] [.i .i64] [.i .i64, .sl [.i .i64], .sl [.i .i64, .i .i64], .sl [.sl [.i .i64]], .sl [.i .i64], .i .i64, .i .i64, .i .i64, .i .i64, .i .i64, .i .i64, .i .i64, .sl [.i .i64, .i .i64], .i .i64, .sl [.i .i64, .i .i64, .i .i64, .i .i64, .i .i64, .i .i64]] [6] (.mp 0)
noncomputable def g_iHead_released := f_iHead_released BIG
noncomputable def p_iHead_released : TSp := ⟨s_iHead_released, [[.i .i64, .sl [.i .i64], .sl [.i .i64, .i .i64], .sl [.sl [.i .i64]], .sl [.i .i64], .i .i64, .i .i64, .i .i64, .i .i64, .i .i64, .i .i64, .i .i64, .sl [.i .i64, .i .i64], .i .i64, .sl [.i .i64, .i .i64, .i .i64, .i .i64, .i .i64, .i .i64]], [.i .i64, .i .i64, .i .i64, .i .i64], [.sl [.i .i64, .i .i64]]], [.i .i64], [.i .i64, .sl [.i .i64], .sl [.i .i64, .i .i64], .sl [.sl [.i .i64]], .sl [.i .i64], .i .i64, .i .i64, .i .i64, .i .i64, .i .i64, .i .i64, .i .i64, .sl [.i .i64, .i .i64], .i .i64, .sl [.i .i64, .i .i64, .i .i64, .i .i64, .i .i64, .i .i64]], Ou.j (.mp 0), g_iHead_released⟩
theorem k_iHead_released : chkW PG E_iHead_released 179 s_iHead_released (c_iHead_released.ht 118) (.mp 0) = some (c_iHead_released.wc E_iHead_released, [6]) := by kernel_rfl
theorem ok_iHead_released : p_iHead_released.Ok PG 179 := mkOk (env_cons ok_ihasEdge (env_cons ok_iHead_say (env_cons ok_iin (env_cons ok_iwithEdge (env_cons ok_iInside (env_cons ok_iwithoutEdge (env_cons ok_iHead_order (env_nil PG)))))))) k_iHead_released (by kernel_rfl)
theorem e_iHead_released (n : Nat) (a0 : Int × List (Int) × List (Int × Int) × List ((List (Int))) × List (Int) × Int × Int × Int × Int × Int × Int × Int × List (Int × Int) × Int × List (Int × Int × Int × Int × Int × Int)) (a1 : Int × Int × Int × Int) (a2 : List (Int × Int)) : f_iHead_released n (a0, a1, a2) =
  Option.bind (loopT n (X := (Int × List (Int) × List (Int × Int) × List ((List (Int))) × List (Int) × Int × Int × Int × Int × Int × Int × Int × List (Int × Int) × Int × List (Int × Int × Int × Int × Int × Int)) × Int) (B := ((Int × List (Int) × List (Int × Int) × List ((List (Int))) × List (Int) × Int × Int × Int × Int × Int × Int × Int × List (Int × Int) × Int × List (Int × Int × Int × Int × Int × Int))) ⊕ (Int × (Int × List (Int) × List (Int × Int) × List ((List (Int))) × List (Int) × Int × Int × Int × Int × Int × Int × Int × List (Int × Int) × Int × List (Int × Int × Int × Int × Int × Int)))) (fun self1 x0 =>
    bif decide (x0.2 < (a2.length : Int)) then
     bnd a2.length x0.2 fun n2 =>
     Option.bind a2[n2]? fun y3 =>
     Option.bind (g_ihasEdge (x0.1.2.2.1, y3)) fun r4 =>
     bif r4.1 then
      Option.bind (g_iHead_say (x0.1, a1, (3 : Int))) fun r5 =>
      some (Sum.inr (r5.1, r5.2))
     else self1 (x0.1, IntKind.wrap .i64 (x0.2 + (1 : Int)))
    else some (Sum.inl x0.1)) (a0, (0 : Int)) : Option (((Int × List (Int) × List (Int × Int) × List ((List (Int))) × List (Int) × Int × Int × Int × Int × Int × Int × Int × List (Int × Int) × Int × List (Int × Int × Int × Int × Int × Int))) ⊕ (Int × (Int × List (Int) × List (Int × Int) × List ((List (Int))) × List (Int) × Int × Int × Int × Int × Int × Int × Int × List (Int × Int) × Int × List (Int × Int × Int × Int × Int × Int))))) fun y => match y with
  | .inl x6 =>
   Option.bind (Option.bind (g_iin (a1.2.2.1, (0 : Int), IntKind.wrap .i64 (x6.1 - (1 : Int)))) fun r7 =>
    bif !r7.1 then
     some true
    else Option.bind (g_iin (a1.2.2.2, (1 : Int), (x6.2.2.2.1.length : Int))) fun r8 =>
    some !r8.1 : Option (Bool)) fun x9 =>
   bif x9 then
    Option.bind (g_iHead_say (x6, a1, (3 : Int))) fun r10 =>
    some (r10.1, r10.2)
   else Option.bind (loopT n (X := (Int × List (Int) × List (Int × Int) × List ((List (Int))) × List (Int) × Int × Int × Int × Int × Int × Int × Int × List (Int × Int) × Int × List (Int × Int × Int × Int × Int × Int)) × Int) (B := (Int × List (Int) × List (Int × Int) × List ((List (Int))) × List (Int) × Int × Int × Int × Int × Int × Int × Int × List (Int × Int) × Int × List (Int × Int × Int × Int × Int × Int))) (fun self12 x11 =>
     bif decide (x11.2 < (a2.length : Int)) then
      bnd a2.length x11.2 fun n13 =>
      Option.bind a2[n13]? fun y14 =>
      Option.bind (g_iwithEdge (x11.1.2.2.1, y14)) fun r15 =>
      self12 ((x11.1.1, x11.1.2.1, r15.1, x11.1.2.2.2), IntKind.wrap .i64 (x11.2 + (1 : Int)))
     else some x11.1) (x6, (0 : Int)) : Option ((Int × List (Int) × List (Int × Int) × List ((List (Int))) × List (Int) × Int × Int × Int × Int × Int × Int × Int × List (Int × Int) × Int × List (Int × Int × Int × Int × Int × Int)))) fun x16 =>
   bnd x16.2.1.length a1.2.2.1 fun n17 =>
   Option.bind x16.2.1[n17]? fun y18 =>
   Option.bind (g_iInside (x16.2.1.set n17 a1.2.2.2, x16.2.2.1, a1.2.2.2)) fun r19 =>
   bif decide ((r19.1.length : Int) = (0 : Int)) then
    Option.bind (g_iHead_say ((x16.1, x16.2.1.set n17 a1.2.2.2, x16.2.2), a1, (1 : Int))) fun r20 =>
    some (r20.1, r20.2)
   else Option.bind (loopT n (X := (Int × List (Int) × List (Int × Int) × List ((List (Int))) × List (Int) × Int × Int × Int × Int × Int × Int × Int × List (Int × Int) × Int × List (Int × Int × Int × Int × Int × Int)) × Int) (B := (Int × List (Int) × List (Int × Int) × List ((List (Int))) × List (Int) × Int × Int × Int × Int × Int × Int × Int × List (Int × Int) × Int × List (Int × Int × Int × Int × Int × Int))) (fun self22 x21 =>
     bif decide (x21.2 < (r19.1.length : Int)) then
      bnd r19.1.length x21.2 fun n23 =>
      Option.bind r19.1[n23]? fun y24 =>
      Option.bind (g_iwithoutEdge (x21.1.2.2.1, y24)) fun r25 =>
      self22 ((x21.1.1, x21.1.2.1, r25.1, x21.1.2.2.2), IntKind.wrap .i64 (x21.2 + (1 : Int)))
     else some x21.1) ((x16.1, x16.2.1.set n17 a1.2.2.2, x16.2.2), (0 : Int)) : Option ((Int × List (Int) × List (Int × Int) × List ((List (Int))) × List (Int) × Int × Int × Int × Int × Int × Int × Int × List (Int × Int) × Int × List (Int × Int × Int × Int × Int × Int)))) fun x26 =>
   Option.bind (g_iHead_order (x26, a1, a1.2.2.2, ((0 : Int), (4 : Int), r19.1, (0 : Int)))) fun r27 =>
   some (r27.1, r27.2)
  | .inr x6 =>
   some (x6.1, x6.2) := by kernel_rfl
/- impl.Hear -/
def c_iHear : TC :=
 (.seq (.rg [o1 3 (.a (.t 0)),
   o1 5 (.a (.t 2)),
   ⟨false, [], [], .det 2 (.a (.c [.i .i64, .sl [.i .i64], .sl [.i .i64, .i .i64], .sl [.sl [.i .i64]], .sl [.i .i64], .i .i64, .i .i64, .i .i64, .i .i64, .i .i64, .i .i64, .i .i64, .sl [.i .i64, .i .i64], .i .i64, .sl [.i .i64, .i .i64, .i .i64, .i .i64, .i .i64, .i .i64]] [.int .i64 (0), .slice none 0 0, .slice none 0 0, .slice none 0 0, .slice none 0 0, .int .i64 (0), .int .i64 (0), .int .i64 (0), .int .i64 (0), .int .i64 (0), .int .i64 (0), .int .i64 (0), .slice none 0 0, .int .i64 (0), .slice none 0 0])), [6, 1000000001], (some 6), none⟩,
   o1 7 (.lit [.i .i64] [.int .i64 (0)])])
 (.seq (.rg [o1 11 (.load 3 [] 0 .nil 15 false),
   o3 12 120 [.t 11],
   ⟨false, [], [], .det 2 (.a (.c [.i .i64, .sl [.i .i64], .sl [.i .i64, .i .i64], .sl [.sl [.i .i64]], .sl [.i .i64], .i .i64, .i .i64, .i .i64, .i .i64, .i .i64, .i .i64, .i .i64, .sl [.i .i64, .i .i64], .i .i64, .sl [.i .i64, .i .i64, .i .i64, .i .i64, .i .i64, .i .i64]] [.int .i64 (0), .slice none 0 0, .slice none 0 0, .slice none 0 0, .slice none 0 0, .int .i64 (0), .int .i64 (0), .int .i64 (0), .int .i64 (0), .int .i64 (0), .int .i64 (0), .int .i64 (0), .slice none 0 0, .int .i64 (0), .slice none 0 0])), [8, 1000000001], (some 8), none⟩,
   o4 2 [8, 12] (.store 8 [] 0 .nil (.t 12))])
 (.seq (.seq (.join [⟨43, [.b], false⟩] 17592186036224 none (.rg [o1 13 (.load 3 [] 0 .nil 15 false),
   o3 14 47 [.t 13],
   o1 15 (.data .not [.t 14]),
   o1 16 (.copy 15),
   o2 17 (.idx .nil) 3 false,
   o2 18 (.load 3 [] 0 (.t 17) 1 false) 3 false,
   o2 19 (.load 5 [] 0 .nil 4 false) 3 false,
   ⟨false, [], [], .call 1 136 [.t 18, .t 19] .no, [20], (some 20), some (3, false)⟩,
   o2 21 (.data .not [.t 20]) 3 false,
   ⟨false, [], [], .pick 16 (.c (.bool true)) (.t 21), [22], (some 22), none⟩,
   o1 23 (.copy 22),
   o2 24 (.load 3 [] 0 .nil 15 false) 10 false,
   ⟨false, [], [], .call 1 48 [.t 24] .no, [25], (some 25), some (10, false)⟩,
   o2 26 (.data .not [.t 25]) 10 false,
   ⟨false, [], [], .pick 23 (.c (.bool true)) (.t 26), [27], (some 27), none⟩,
   o1 28 (.copy 27),
   o2 29 (.copy 1) 15 false,
   o2 30 (.idx .nil) 15 false,
   o2 31 (.idx (.t 30)) 15 false,
   o2 32 (.load 3 [] 9 (.t 31) 1 false) 15 false,
   o2 33 (.data (.bin .neq) [.t 29, .t 32]) 15 false,
   ⟨false, [], [], .pick 28 (.c (.bool true)) (.t 33), [34], (some 34), none⟩,
   o1 35 (.copy 34),
   o2 36 (.idx .nil) 22 false,
   o2 37 (.load 5 [] 0 (.t 36) 1 false) 22 false,
   o2 38 (.idx .nil) 22 false,
   o2 39 (.idx (.t 38)) 22 false,
   o2 40 (.idx (.t 39)) 22 false,
   o2 41 (.load 3 [] 10 (.t 40) 1 false) 22 false,
   o2 42 (.data (.bin .neq) [.t 37, .t 41]) 22 false,
   ⟨false, [], [], .pick 35 (.c (.bool true)) (.t 42), [43], (some 43), none⟩]))
 (.cond (.t 43)
  (.seq (.rg [o1 44 (.load 8 [] 0 .nil 15 true),
    ⟨false, [44], [], .det 2 (.store 6 [] 0 .nil (.t 44)), [6, 44, 44, 8], none, none⟩,
    o1 7 (.lit [.i .i64] [.int .i64 (0)])])
  .ret)
  .skip))
 (.seq (.rg [o1 45 (.idx .nil),
   o1 46 (.load 8 [] 5 (.t 45) 9 true),
   ⟨false, [], [], .det 2 (.a (.c [.i .i64, .i .i64, .i .i64, .i .i64, .i .i64, .i .i64, .i .i64, .sl [.i .i64, .i .i64], .i .i64] [.int .i64 (0), .int .i64 (0), .int .i64 (0), .int .i64 (0), .int .i64 (0), .int .i64 (0), .int .i64 (0), .slice none 0 0, .int .i64 (0)])), [9, 1000000001], (some 9), none⟩,
   ⟨false, [46], [], .det 2 (.store 9 [] 0 .nil (.t 46)), [9, 46, 46, 8], none, none⟩])
 (.seq (.rg [o1 47 (.build [.i .i64, .i .i64, .i .i64, .i .i64, .i .i64, .i .i64, .i .i64, .sl [.i .i64, .i .i64], .i .i64] []),
   o1 48 (.idx .nil),
   o4 2 [8, 47] (.store 8 [] 5 (.t 48) (.t 47))])
 (.seq (.rg [o1 49 (.idx .nil),
   o1 50 (.load 8 [] 4 (.t 49) 1 true),
   o1 51 (.copy 1),
   o1 52 (.data (.bin .sub) [.t 51, .c (.int .i64 (1))]),
   o1 53 (.idx .nil),
   o1 54 (.load 5 [] 0 (.t 53) 1 false),
   o1 55 (.index 50 (.t 52)),
   o4 1 [8, 50] (.store 8 [(4, 1)] 0 (.t 55) (.t 54))])
 (.seq (.rg [o1 56 (.idx .nil),
   o1 57 (.load 8 [] 3 (.t 56) 1 true),
   o1 58 (.copy 1),
   o1 59 (.data (.bin .sub) [.t 58, .c (.int .i64 (1))]),
   o1 60 (.idx .nil),
   o1 61 (.load 5 [] 3 (.t 60) 1 false),
   o3 62 100 [.t 61],
   o1 63 (.index 57 (.t 59)),
   o4 2 [8, 62, 45, 48, 49, 55, 63, 57, 56] (.store 8 [(3, 1)] 0 (.t 63) (.t 62))])
 (.seq (.rg [o1 10 (.lit [.i .i64] [.int .i64 (0)])])
 (.seq (.join [⟨8, [.i .i64, .sl [.i .i64], .sl [.i .i64, .i .i64], .sl [.sl [.i .i64]], .sl [.i .i64], .i .i64, .i .i64, .i .i64, .i .i64, .i .i64, .i .i64, .i .i64, .sl [.i .i64, .i .i64], .i .i64, .sl [.i .i64, .i .i64, .i .i64, .i .i64, .i .i64, .i .i64]], false⟩, ⟨10, [.i .i64], false⟩] 309484991374600995015230720 none (.block 0 (.seq (.rg [o1 68 (.idx .nil),
   o1 69 (.idx (.t 68)),
   o1 70 (.load 9 [] 1 (.t 69) 1 false),
   o1 71 (.data (.bin .neq) [.t 70, .c (.int .i64 (4))]),
   o1 67 (.copy 71)])
 (.cond (.t 67)
  (.rg [o1 72 (.idx .nil),
    o1 73 (.load 9 [] 0 (.t 72) 4 false),
    o1 74 (.idx .nil),
    o1 75 (.load 5 [] 1 (.t 74) 1 false),
    o3 76 178 [.t 75],
    ⟨false, [], [], .call 2 177 [.t 8, .t 73, .t 76] (.mp 0), [77, 8], (some 77), none⟩,
    o1 10 (.copy 77)])
  (.seq (.rg [o1 79 (.idx .nil),
    o1 80 (.idx (.t 79)),
    o1 81 (.load 9 [] 6 (.t 80) 1 false),
    o1 82 (.data (.bin .eql) [.t 81, .c (.int .i64 (3))]),
    o1 78 (.copy 82)])
  (.cond (.t 78)
   (.rg [o1 83 (.idx .nil),
     o1 84 (.load 9 [] 0 (.t 83) 4 false),
     o1 85 (.idx .nil),
     o1 86 (.load 5 [] 2 (.t 85) 1 false),
     ⟨false, [], [], .call 2 179 [.t 8, .t 84, .t 86] (.mp 0), [87, 8], (some 87), none⟩,
     o1 10 (.copy 87)])
   (.rg [o1 64 (.idx .nil),
     o1 65 (.load 9 [] 0 (.t 64) 4 false),
     ⟨false, [], [], .call 2 177 [.t 8, .t 65, .c [.i .i64] [.int .i64 (1)]] (.mp 0), [66, 8], (some 66), none⟩,
     o1 10 (.copy 66)])))))))
 (.seq (.rg [o1 88 (.load 8 [] 0 .nil 15 true),
   o1 89 (.copy 10),
   ⟨false, [88], [], .det 2 (.store 6 [] 0 .nil (.t 88)), [6, 88, 88, 8], none, none⟩,
   o1 7 (.copy 89)])
 .ret))))))))))
def s_iHear : Sig := ⟨[.rd true [.d, .sl (.own none) [.d], .sl (.own none) [.d, .d], .sl (.own none) [.sl (.own none) [.d]], .sl (.own none) [.d], .d, .d, .d, .d, .d, .d, .d, .sl (.own none) [.d, .d], .d, .sl (.own none) [.d, .d, .d, .d, .d, .d]], .rd false [.d], .rd true [.d, .d, .sl (.own none) [.d, .d], .sl (.own none) [.d]]], (.tup [(true, 15), (false, 1)] [.d, .sl (.own none) [.d], .sl (.own none) [.d, .d], .sl (.own none) [.sl (.own none) [.d]], .sl (.own none) [.d], .d, .d, .d, .d, .d, .d, .d, .sl (.own none) [.d, .d], .d, .sl (.own none) [.d, .d, .d, .d, .d, .d], .d])⟩
noncomputable def E_iHear : TEnv := envOf [(120, p_icopyHead), (47, p_iHeadOk), (136, p_iAnswerOk), (48, p_iBusy), (100, p_icopyInts), (178, p_iyesNo), (177, p_iHead_say), (179, p_iHead_released)]
noncomputable def f_iHear (n : Nat) : (Int × List (Int) × List (Int × Int) × List (List (Int)) × List (Int) × Int × Int × Int × Int × Int × Int × Int × List (Int × Int) × Int × List (Int × Int × Int × Int × Int × Int)) × Int × (Int × Bool × List (Int × Int) × List (Int)) → Option ((Int × List (Int) × List (Int × Int) × List (List (Int)) × List (Int) × Int × Int × Int × Int × Int × Int × Int × List (Int × Int) × Int × List (Int × Int × Int × Int × Int × Int) × Int) × Unit) := runFn n E_iHear c_iHear [[.i .i64, .sl [.i .i64], .sl [.i .i64, .i .i64], .sl [.sl [.i .i64]], .sl [.i .i64], .i .i64, .i .i64, .i .i64, .i .i64, .i .i64, .i .i64, .i .i64, .sl [.i .i64, .i .i64], .i .i64, .sl [.i .i64, .i .i64, .i .i64, .i .i64, .i .i64, .i .i64]], [.i .i64], [.i .i64, .b, .sl [.i .i64, .i .i64], .sl [.i .i64]]] [.i .i64, .sl [.i .i64], .sl [.i .i64, .i .i64], .sl [.sl [.i .i64]], .sl [.i .i64], .i .i64, .i .i64, .i .i64, .i .i64, .i .i64, .i .i64, .i .i64, .sl [.i .i64, .i .i64], .i .i64, .sl [.i .i64, .i .i64, .i .i64, .i .i64, .i .i64, .i .i64], .i .i64] [] [6, 7] .no
noncomputable def g_iHear := f_iHear BIG
noncomputable def p_iHear : TSp := ⟨s_iHear, [[.i .i64, .sl [.i .i64], .sl [.i .i64, .i .i64], .sl [.sl [.i .i64]], .sl [.i .i64], .i .i64, .i .i64, .i .i64, .i .i64, .i .i64, .i .i64, .i .i64, .sl [.i .i64, .i .i64], .i .i64, .sl [.i .i64, .i .i64, .i .i64, .i .i64, .i .i64, .i .i64]], [.i .i64], [.i .i64, .b, .sl [.i .i64, .i .i64], .sl [.i .i64]]], [.i .i64, .sl [.i .i64], .sl [.i .i64, .i .i64], .sl [.sl [.i .i64]], .sl [.i .i64], .i .i64, .i .i64, .i .i64, .i .i64, .i .i64, .i .i64, .i .i64, .sl [.i .i64, .i .i64], .i .i64, .sl [.i .i64, .i .i64, .i .i64, .i .i64, .i .i64, .i .i64], .i .i64], [], Ou.j .no, g_iHear⟩
theorem k_iHear : chkW PG E_iHear 73 s_iHear (c_iHear.ht 90) .no = some (c_iHear.wc E_iHear, [6, 7]) := by kernel_rfl
theorem ok_iHear : p_iHear.Ok PG 73 := mkOk (env_cons ok_icopyHead (env_cons ok_iHeadOk (env_cons ok_iAnswerOk (env_cons ok_iBusy (env_cons ok_icopyInts (env_cons ok_iyesNo (env_cons ok_iHead_say (env_cons ok_iHead_released (env_nil PG))))))))) k_iHear (by kernel_rfl)
theorem e_iHear (n : Nat) (a0 : Int × List (Int) × List (Int × Int) × List ((List (Int))) × List (Int) × Int × Int × Int × Int × Int × Int × Int × List (Int × Int) × Int × List (Int × Int × Int × Int × Int × Int)) (a1 : Int) (a2 : Int × Bool × List (Int × Int) × List (Int)) : f_iHear n (a0, a1, a2) =
  Option.bind (g_icopyHead a0) fun r0 =>
  Option.bind (Option.bind (g_iHeadOk a0) fun r1 =>
   bif !r1.1 then
    some true
   else Option.bind (g_iAnswerOk (a0.1, a2)) fun r2 =>
   bif !r2.1 then
    some true
   else Option.bind (g_iBusy a0) fun r3 =>
   bif !r3.1 then
    some true
   else bif !decide (a1 = a0.2.2.2.2.2.2.2.2.2.1) then
    some true
   else some (!decide (a2.1 = a0.2.2.2.2.2.2.2.2.2.2.1)) : Option (Bool)) fun x4 =>
  bif x4 then
   some ((r0.1.1, r0.1.2.1, r0.1.2.2.1, r0.1.2.2.2.1, r0.1.2.2.2.2.1, r0.1.2.2.2.2.2.1, r0.1.2.2.2.2.2.2.1, r0.1.2.2.2.2.2.2.2.1, r0.1.2.2.2.2.2.2.2.2.1, r0.1.2.2.2.2.2.2.2.2.2.1, r0.1.2.2.2.2.2.2.2.2.2.2.1, r0.1.2.2.2.2.2.2.2.2.2.2.2.1, r0.1.2.2.2.2.2.2.2.2.2.2.2.2.1, r0.1.2.2.2.2.2.2.2.2.2.2.2.2.2.1, r0.1.2.2.2.2.2.2.2.2.2.2.2.2.2.2, (0 : Int)), ())
  else bnd r0.1.2.2.2.2.1.length (IntKind.wrap .i64 (a1 - (1 : Int))) fun n5 =>
  Option.bind r0.1.2.2.2.2.1[n5]? fun y6 =>
  Option.bind (g_icopyInts a2.2.2.2) fun r7 =>
  bnd r0.1.2.2.2.1.length (IntKind.wrap .i64 (a1 - (1 : Int))) fun n8 =>
  Option.bind r0.1.2.2.2.1[n8]? fun y9 =>
  Option.bind (bif !decide (r0.1.2.2.2.2.2.2.1 = (4 : Int)) then
    Option.bind (g_iyesNo a2.2.1) fun r10 =>
    Option.bind (g_iHead_say ((r0.1.1, r0.1.2.1, r0.1.2.2.1, r0.1.2.2.2.1.set n8 r7.1, r0.1.2.2.2.2.1.set n5 a2.1, (0 : Int), (0 : Int), (0 : Int), (0 : Int), (0 : Int), (0 : Int), (0 : Int), [], (0 : Int), r0.1.2.2.2.2.2.2.2.2.2.2.2.2.2.2), (r0.1.2.2.2.2.2.1, r0.1.2.2.2.2.2.2.1, r0.1.2.2.2.2.2.2.2.1, r0.1.2.2.2.2.2.2.2.2.1), r10.1)) fun r11 =>
    some (r11.2, r11.1)
   else bif decide (r0.1.2.2.2.2.2.2.2.2.2.2.2.1 = (3 : Int)) then
    Option.bind (g_iHead_released ((r0.1.1, r0.1.2.1, r0.1.2.2.1, r0.1.2.2.2.1.set n8 r7.1, r0.1.2.2.2.2.1.set n5 a2.1, (0 : Int), (0 : Int), (0 : Int), (0 : Int), (0 : Int), (0 : Int), (0 : Int), [], (0 : Int), r0.1.2.2.2.2.2.2.2.2.2.2.2.2.2.2), (r0.1.2.2.2.2.2.1, r0.1.2.2.2.2.2.2.1, r0.1.2.2.2.2.2.2.2.1, r0.1.2.2.2.2.2.2.2.2.1), a2.2.2.1)) fun r12 =>
    some (r12.2, r12.1)
   else Option.bind (g_iHead_say ((r0.1.1, r0.1.2.1, r0.1.2.2.1, r0.1.2.2.2.1.set n8 r7.1, r0.1.2.2.2.2.1.set n5 a2.1, (0 : Int), (0 : Int), (0 : Int), (0 : Int), (0 : Int), (0 : Int), (0 : Int), [], (0 : Int), r0.1.2.2.2.2.2.2.2.2.2.2.2.2.2.2), (r0.1.2.2.2.2.2.1, r0.1.2.2.2.2.2.2.1, r0.1.2.2.2.2.2.2.2.1, r0.1.2.2.2.2.2.2.2.2.1), (1 : Int))) fun r13 =>
   some (r13.2, r13.1) : Option ((Int × List (Int) × List (Int × Int) × List ((List (Int))) × List (Int) × Int × Int × Int × Int × Int × Int × Int × List (Int × Int) × Int × List (Int × Int × Int × Int × Int × Int)) × Int)) fun x14 =>
  some ((x14.1.1, x14.1.2.1, x14.1.2.2.1, x14.1.2.2.2.1, x14.1.2.2.2.2.1, x14.1.2.2.2.2.2.1, x14.1.2.2.2.2.2.2.1, x14.1.2.2.2.2.2.2.2.1, x14.1.2.2.2.2.2.2.2.2.1, x14.1.2.2.2.2.2.2.2.2.2.1, x14.1.2.2.2.2.2.2.2.2.2.2.1, x14.1.2.2.2.2.2.2.2.2.2.2.2.1, x14.1.2.2.2.2.2.2.2.2.2.2.2.2.1, x14.1.2.2.2.2.2.2.2.2.2.2.2.2.2.1, x14.1.2.2.2.2.2.2.2.2.2.2.2.2.2.2, x14.2), ()) := by kernel_rfl
/- laws.eqIntS -/
def c_leqIntS : TC :=
 (.seq (.rg [o1 4 (.lit [.b] [.bool false])])
 (.seq (.seq (.rg [o1 6 (.copy 0),
   o1 7 (.len 6),
   o1 8 (.copy 1),
   o1 9 (.len 8),
   o1 10 (.data (.bin .neq) [.t 7, .t 9])])
 (.cond (.t 10)
  (.seq (.rg [o1 4 (.lit [.b] [.bool false])])
  .ret)
  .skip))
 (.seq (.join [] 67106864 (some [⟨4, [.b], false⟩]) (.seq (.rg [o1 5 (.lit [.i .i64] [.int .i64 (0)])])
 (.block 0 (.loop [⟨5, [.i .i64], false⟩] 67106864
  (.seq (.seq (.rg [o1 11 (.copy 5),
    o1 12 (.copy 0),
    o1 13 (.len 12),
    o1 14 (.data (.bin .lss) [.t 11, .t 13])])
  (.cond (.t 14)
   .skip
   (.exit 0)))
  (.seq (.block 1 (.seq (.rg [o1 17 (.copy 0),
    o1 18 (.copy 5),
    o1 19 (.index 17 (.t 18)),
    o1 20 (.load 17 [(0, 1)] 0 (.t 19) 1 false),
    o1 21 (.copy 1),
    o1 22 (.copy 5),
    o1 23 (.index 21 (.t 22)),
    o1 24 (.load 21 [(0, 1)] 0 (.t 23) 1 false),
    o1 25 (.data (.bin .neq) [.t 20, .t 24])])
  (.cond (.t 25)
   (.seq (.rg [o1 4 (.lit [.b] [.bool false])])
   .ret)
   .skip)))
  (.rg [o1 15 (.copy 5),
    o1 16 (.data (.bin .add) [.t 15, .c (.int .i64 (1))]),
    o1 5 (.copy 16)])))))))
 (.seq (.rg [o1 4 (.lit [.b] [.bool true])])
 .ret))))
def s_leqIntS : Sig := ⟨[.rd false [.sl (.own none) [.d]], .rd false [.sl (.own none) [.d]]], (.one false [.d])⟩
noncomputable def E_leqIntS : TEnv := envOf []
noncomputable def f_leqIntS (n : Nat) : List (Int) × List (Int) → Option ((Bool) × Unit) := runFn n E_leqIntS c_leqIntS [[.sl [.i .i64]], [.sl [.i .i64]]] [.b] [] [4] .no
noncomputable def g_leqIntS := f_leqIntS BIG
noncomputable def p_leqIntS : TSp := ⟨s_leqIntS, [[.sl [.i .i64]], [.sl [.i .i64]]], [.b], [], Ou.j .no, g_leqIntS⟩
theorem k_leqIntS : chkW PG E_leqIntS 180 s_leqIntS (c_leqIntS.ht 26) .no = some (c_leqIntS.wc E_leqIntS, [4]) := by kernel_rfl
theorem ok_leqIntS : p_leqIntS.Ok PG 180 := mkOk (env_nil PG) k_leqIntS (by kernel_rfl)
theorem e_leqIntS (n : Nat) (a0 : List (Int)) (a1 : List (Int)) : f_leqIntS n (a0, a1) =
  bif !decide ((a0.length : Int) = (a1.length : Int)) then
   some (false, ())
  else Option.bind (loopT n (X := Int) (B := (Unit) ⊕ (Bool)) (fun self1 x0 =>
    bif decide (x0 < (a0.length : Int)) then
     bnd a0.length x0 fun n2 =>
     Option.bind a0[n2]? fun y3 =>
     bnd a1.length x0 fun n4 =>
     Option.bind a1[n4]? fun y5 =>
     bif !decide (y3 = y5) then
      some (Sum.inr false)
     else self1 (IntKind.wrap .i64 (x0 + (1 : Int)))
    else some (Sum.inl ())) (0 : Int) : Option ((Unit) ⊕ (Bool))) fun y => match y with
  | .inl x6 =>
   some (true, ())
  | .inr x6 =>
   some (x6, ()) := by kernel_rfl
/- laws.eqEdge -/
def c_leqEdge : TC :=
 (.seq (.rg [o1 2 (.a (.t 0)),
   o1 3 (.a (.t 1)),
   o1 4 (.lit [.b] [.bool false])])
 (.seq (.seq (.rg [o1 5 (.idx .nil),
   o1 6 (.load 2 [] 0 (.t 5) 1 false),
   o1 7 (.idx .nil),
   o1 8 (.load 3 [] 0 (.t 7) 1 false),
   o1 9 (.data (.bin .neq) [.t 6, .t 8])])
 (.cond (.t 9)
  (.seq (.rg [o1 4 (.lit [.b] [.bool false])])
  .ret)
  .skip))
 (.seq (.seq (.rg [o1 10 (.idx .nil),
   o1 11 (.load 2 [] 1 (.t 10) 1 false),
   o1 12 (.idx .nil),
   o1 13 (.load 3 [] 1 (.t 12) 1 false),
   o1 14 (.data (.bin .neq) [.t 11, .t 13])])
 (.cond (.t 14)
  (.seq (.rg [o1 4 (.lit [.b] [.bool false])])
  .ret)
  .skip))
 (.seq (.rg [o1 4 (.lit [.b] [.bool true])])
 .ret))))
def s_leqEdge : Sig := ⟨[.rd true [.d, .d], .rd true [.d, .d]], (.one false [.d])⟩
noncomputable def E_leqEdge : TEnv := envOf []
noncomputable def f_leqEdge (n : Nat) : (Int × Int) × (Int × Int) → Option ((Bool) × Unit) := runFn n E_leqEdge c_leqEdge [[.i .i64, .i .i64], [.i .i64, .i .i64]] [.b] [] [4] .no
noncomputable def g_leqEdge := f_leqEdge BIG
noncomputable def p_leqEdge : TSp := ⟨s_leqEdge, [[.i .i64, .i .i64], [.i .i64, .i .i64]], [.b], [], Ou.j .no, g_leqEdge⟩
theorem k_leqEdge : chkW PG E_leqEdge 288 s_leqEdge (c_leqEdge.ht 15) .no = some (c_leqEdge.wc E_leqEdge, [4]) := by kernel_rfl
theorem ok_leqEdge : p_leqEdge.Ok PG 288 := mkOk (env_nil PG) k_leqEdge (by kernel_rfl)
theorem e_leqEdge (n : Nat) (a0 : Int × Int) (a1 : Int × Int) : f_leqEdge n (a0, a1) =
  bif !decide (a0.1 = a1.1) then
   some (false, ())
  else bif !decide (a0.2 = a1.2) then
   some (false, ())
  else some (true, ()) := by kernel_rfl
/- laws.eqEdgeS -/
def c_leqEdgeS : TC :=
 (.seq (.rg [o1 4 (.lit [.b] [.bool false])])
 (.seq (.seq (.rg [o1 6 (.copy 0),
   o1 7 (.len 6),
   o1 8 (.copy 1),
   o1 9 (.len 8),
   o1 10 (.data (.bin .neq) [.t 7, .t 9])])
 (.cond (.t 10)
  (.seq (.rg [o1 4 (.lit [.b] [.bool false])])
  .ret)
  .skip))
 (.seq (.join [] 134215728 (some [⟨4, [.b], false⟩]) (.seq (.rg [o1 5 (.lit [.i .i64] [.int .i64 (0)])])
 (.block 0 (.loop [⟨5, [.i .i64], false⟩] 134215728
  (.seq (.seq (.rg [o1 11 (.copy 5),
    o1 12 (.copy 0),
    o1 13 (.len 12),
    o1 14 (.data (.bin .lss) [.t 11, .t 13])])
  (.cond (.t 14)
   .skip
   (.exit 0)))
  (.seq (.block 1 (.seq (.rg [o1 17 (.copy 0),
    o1 18 (.copy 5),
    o1 19 (.index 17 (.t 18)),
    o1 20 (.load 17 [(0, 2)] 0 (.t 19) 2 false),
    o1 21 (.copy 1),
    o1 22 (.copy 5),
    o1 23 (.index 21 (.t 22)),
    o1 24 (.load 21 [(0, 2)] 0 (.t 23) 2 false),
    o3 25 288 [.t 20, .t 24],
    o1 26 (.data .not [.t 25])])
  (.cond (.t 26)
   (.seq (.rg [o1 4 (.lit [.b] [.bool false])])
   .ret)
   .skip)))
  (.rg [o1 15 (.copy 5),
    o1 16 (.data (.bin .add) [.t 15, .c (.int .i64 (1))]),
    o1 5 (.copy 16)])))))))
 (.seq (.rg [o1 4 (.lit [.b] [.bool true])])
 .ret))))
def s_leqEdgeS : Sig := ⟨[.rd false [.sl (.own none) [.d, .d]], .rd false [.sl (.own none) [.d, .d]]], (.one false [.d])⟩
noncomputable def E_leqEdgeS : TEnv := envOf [(288, p_leqEdge)]
noncomputable def f_leqEdgeS (n : Nat) : (List (Int × Int)) × (List (Int × Int)) → Option ((Bool) × Unit) := runFn n E_leqEdgeS c_leqEdgeS [[.sl [.i .i64, .i .i64]], [.sl [.i .i64, .i .i64]]] [.b] [] [4] .no
noncomputable def g_leqEdgeS := f_leqEdgeS BIG
noncomputable def p_leqEdgeS : TSp := ⟨s_leqEdgeS, [[.sl [.i .i64, .i .i64]], [.sl [.i .i64, .i .i64]]], [.b], [], Ou.j .no, g_leqEdgeS⟩
theorem k_leqEdgeS : chkW PG E_leqEdgeS 181 s_leqEdgeS (c_leqEdgeS.ht 27) .no = some (c_leqEdgeS.wc E_leqEdgeS, [4]) := by kernel_rfl
theorem ok_leqEdgeS : p_leqEdgeS.Ok PG 181 := mkOk (env_cons ok_leqEdge (env_nil PG)) k_leqEdgeS (by kernel_rfl)
theorem e_leqEdgeS (n : Nat) (a0 : List (Int × Int)) (a1 : List (Int × Int)) : f_leqEdgeS n (a0, a1) =
  bif !decide ((a0.length : Int) = (a1.length : Int)) then
   some (false, ())
  else Option.bind (loopT n (X := Int) (B := (Unit) ⊕ (Bool)) (fun self1 x0 =>
    bif decide (x0 < (a0.length : Int)) then
     bnd a0.length x0 fun n2 =>
     Option.bind a0[n2]? fun y3 =>
     bnd a1.length x0 fun n4 =>
     Option.bind a1[n4]? fun y5 =>
     Option.bind (g_leqEdge (y3, y5)) fun r6 =>
     bif !r6.1 then
      some (Sum.inr false)
     else self1 (IntKind.wrap .i64 (x0 + (1 : Int)))
    else some (Sum.inl ())) (0 : Int) : Option ((Unit) ⊕ (Bool))) fun y => match y with
  | .inl x7 =>
   some (true, ())
  | .inr x7 =>
   some (x7, ()) := by kernel_rfl
/- laws.eqIntSS -/
def c_leqIntSS : TC :=
 (.seq (.rg [o1 4 (.lit [.b] [.bool false])])
 (.seq (.seq (.rg [o1 6 (.copy 0),
   o1 7 (.len 6),
   o1 8 (.copy 1),
   o1 9 (.len 8),
   o1 10 (.data (.bin .neq) [.t 7, .t 9])])
 (.cond (.t 10)
  (.seq (.rg [o1 4 (.lit [.b] [.bool false])])
  .ret)
  .skip))
 (.seq (.join [] 134215728 (some [⟨4, [.b], false⟩]) (.seq (.rg [o1 5 (.lit [.i .i64] [.int .i64 (0)])])
 (.block 0 (.loop [⟨5, [.i .i64], false⟩] 134215728
  (.seq (.seq (.rg [o1 11 (.copy 5),
    o1 12 (.copy 0),
    o1 13 (.len 12),
    o1 14 (.data (.bin .lss) [.t 11, .t 13])])
  (.cond (.t 14)
   .skip
   (.exit 0)))
  (.seq (.block 1 (.seq (.rg [o1 17 (.copy 0),
    o1 18 (.copy 5),
    o1 19 (.index 17 (.t 18)),
    o1 20 (.load 17 [(0, 1)] 0 (.t 19) 1 false),
    o1 21 (.copy 1),
    o1 22 (.copy 5),
    o1 23 (.index 21 (.t 22)),
    o1 24 (.load 21 [(0, 1)] 0 (.t 23) 1 false),
    o3 25 180 [.t 20, .t 24],
    o1 26 (.data .not [.t 25])])
  (.cond (.t 26)
   (.seq (.rg [o1 4 (.lit [.b] [.bool false])])
   .ret)
   .skip)))
  (.rg [o1 15 (.copy 5),
    o1 16 (.data (.bin .add) [.t 15, .c (.int .i64 (1))]),
    o1 5 (.copy 16)])))))))
 (.seq (.rg [o1 4 (.lit [.b] [.bool true])])
 .ret))))
def s_leqIntSS : Sig := ⟨[.rd false [.sl (.own none) [.sl (.own none) [.d]]], .rd false [.sl (.own none) [.sl (.own none) [.d]]]], (.one false [.d])⟩
noncomputable def E_leqIntSS : TEnv := envOf [(180, p_leqIntS)]
noncomputable def f_leqIntSS (n : Nat) : List (List (Int)) × List (List (Int)) → Option ((Bool) × Unit) := runFn n E_leqIntSS c_leqIntSS [[.sl [.sl [.i .i64]]], [.sl [.sl [.i .i64]]]] [.b] [] [4] .no
noncomputable def g_leqIntSS := f_leqIntSS BIG
noncomputable def p_leqIntSS : TSp := ⟨s_leqIntSS, [[.sl [.sl [.i .i64]]], [.sl [.sl [.i .i64]]]], [.b], [], Ou.j .no, g_leqIntSS⟩
theorem k_leqIntSS : chkW PG E_leqIntSS 182 s_leqIntSS (c_leqIntSS.ht 27) .no = some (c_leqIntSS.wc E_leqIntSS, [4]) := by kernel_rfl
theorem ok_leqIntSS : p_leqIntSS.Ok PG 182 := mkOk (env_cons ok_leqIntS (env_nil PG)) k_leqIntSS (by kernel_rfl)
theorem e_leqIntSS (n : Nat) (a0 : List ((List (Int)))) (a1 : List ((List (Int)))) : f_leqIntSS n (a0, a1) =
  bif !decide ((a0.length : Int) = (a1.length : Int)) then
   some (false, ())
  else Option.bind (loopT n (X := Int) (B := (Unit) ⊕ (Bool)) (fun self1 x0 =>
    bif decide (x0 < (a0.length : Int)) then
     bnd a0.length x0 fun n2 =>
     Option.bind a0[n2]? fun y3 =>
     bnd a1.length x0 fun n4 =>
     Option.bind a1[n4]? fun y5 =>
     Option.bind (g_leqIntS (y3, y5)) fun r6 =>
     bif !r6.1 then
      some (Sum.inr false)
     else self1 (IntKind.wrap .i64 (x0 + (1 : Int)))
    else some (Sum.inl ())) (0 : Int) : Option ((Unit) ⊕ (Bool))) fun y => match y with
  | .inl x7 =>
   some (true, ())
  | .inr x7 =>
   some (x7, ()) := by kernel_rfl
/- laws.eqAsk -/
def c_leqAsk : TC :=
 (.seq (.rg [o1 2 (.a (.t 0)),
   o1 3 (.a (.t 1)),
   o1 4 (.lit [.b] [.bool false])])
 (.seq (.seq (.rg [o1 5 (.idx .nil),
   o1 6 (.load 2 [] 0 (.t 5) 1 false),
   o1 7 (.idx .nil),
   o1 8 (.load 3 [] 0 (.t 7) 1 false),
   o1 9 (.data (.bin .neq) [.t 6, .t 8])])
 (.cond (.t 9)
  (.seq (.rg [o1 4 (.lit [.b] [.bool false])])
  .ret)
  .skip))
 (.seq (.seq (.rg [o1 10 (.idx .nil),
   o1 11 (.load 2 [] 1 (.t 10) 1 false),
   o1 12 (.idx .nil),
   o1 13 (.load 3 [] 1 (.t 12) 1 false),
   o1 14 (.data (.bin .neq) [.t 11, .t 13])])
 (.cond (.t 14)
  (.seq (.rg [o1 4 (.lit [.b] [.bool false])])
  .ret)
  .skip))
 (.seq (.seq (.rg [o1 15 (.idx .nil),
   o1 16 (.load 2 [] 2 (.t 15) 1 false),
   o1 17 (.idx .nil),
   o1 18 (.load 3 [] 2 (.t 17) 1 false),
   o1 19 (.data (.bin .neq) [.t 16, .t 18])])
 (.cond (.t 19)
  (.seq (.rg [o1 4 (.lit [.b] [.bool false])])
  .ret)
  .skip))
 (.seq (.seq (.rg [o1 20 (.idx .nil),
   o1 21 (.load 2 [] 3 (.t 20) 1 false),
   o1 22 (.idx .nil),
   o1 23 (.load 3 [] 3 (.t 22) 1 false),
   o1 24 (.data (.bin .neq) [.t 21, .t 23])])
 (.cond (.t 24)
  (.seq (.rg [o1 4 (.lit [.b] [.bool false])])
  .ret)
  .skip))
 (.seq (.rg [o1 4 (.lit [.b] [.bool true])])
 .ret))))))
def s_leqAsk : Sig := ⟨[.rd true [.d, .d, .d, .d], .rd true [.d, .d, .d, .d]], (.one false [.d])⟩
noncomputable def E_leqAsk : TEnv := envOf []
noncomputable def f_leqAsk (n : Nat) : (Int × Int × Int × Int) × (Int × Int × Int × Int) → Option ((Bool) × Unit) := runFn n E_leqAsk c_leqAsk [[.i .i64, .i .i64, .i .i64, .i .i64], [.i .i64, .i .i64, .i .i64, .i .i64]] [.b] [] [4] .no
noncomputable def g_leqAsk := f_leqAsk BIG
noncomputable def p_leqAsk : TSp := ⟨s_leqAsk, [[.i .i64, .i .i64, .i .i64, .i .i64], [.i .i64, .i .i64, .i .i64, .i .i64]], [.b], [], Ou.j .no, g_leqAsk⟩
theorem k_leqAsk : chkW PG E_leqAsk 274 s_leqAsk (c_leqAsk.ht 25) .no = some (c_leqAsk.wc E_leqAsk, [4]) := by kernel_rfl
theorem ok_leqAsk : p_leqAsk.Ok PG 274 := mkOk (env_nil PG) k_leqAsk (by kernel_rfl)
theorem e_leqAsk (n : Nat) (a0 : Int × Int × Int × Int) (a1 : Int × Int × Int × Int) : f_leqAsk n (a0, a1) =
  bif !decide (a0.1 = a1.1) then
   some (false, ())
  else bif !decide (a0.2.1 = a1.2.1) then
   some (false, ())
  else bif !decide (a0.2.2.1 = a1.2.2.1) then
   some (false, ())
  else bif !decide (a0.2.2.2 = a1.2.2.2) then
   some (false, ())
  else some (true, ()) := by kernel_rfl
/- laws.eqOrder -/
def c_leqOrder : TC :=
 (.seq (.rg [o1 2 (.a (.t 0)),
   o1 3 (.a (.t 1)),
   o1 4 (.lit [.b] [.bool false])])
 (.seq (.seq (.rg [o1 5 (.idx .nil),
   o1 6 (.load 2 [] 0 (.t 5) 1 false),
   o1 7 (.idx .nil),
   o1 8 (.load 3 [] 0 (.t 7) 1 false),
   o1 9 (.data (.bin .neq) [.t 6, .t 8])])
 (.cond (.t 9)
  (.seq (.rg [o1 4 (.lit [.b] [.bool false])])
  .ret)
  .skip))
 (.seq (.seq (.rg [o1 10 (.idx .nil),
   o1 11 (.load 2 [] 1 (.t 10) 1 false),
   o1 12 (.idx .nil),
   o1 13 (.load 3 [] 1 (.t 12) 1 false),
   o1 14 (.data (.bin .neq) [.t 11, .t 13])])
 (.cond (.t 14)
  (.seq (.rg [o1 4 (.lit [.b] [.bool false])])
  .ret)
  .skip))
 (.seq (.seq (.rg [o1 15 (.idx .nil),
   o1 16 (.load 2 [] 2 (.t 15) 1 false),
   o1 17 (.idx .nil),
   o1 18 (.load 3 [] 2 (.t 17) 1 false),
   o3 19 181 [.t 16, .t 18],
   o1 20 (.data .not [.t 19])])
 (.cond (.t 20)
  (.seq (.rg [o1 4 (.lit [.b] [.bool false])])
  .ret)
  .skip))
 (.seq (.seq (.rg [o1 21 (.idx .nil),
   o1 22 (.load 2 [] 3 (.t 21) 1 false),
   o1 23 (.idx .nil),
   o1 24 (.load 3 [] 3 (.t 23) 1 false),
   o1 25 (.data (.bin .neq) [.t 22, .t 24])])
 (.cond (.t 25)
  (.seq (.rg [o1 4 (.lit [.b] [.bool false])])
  .ret)
  .skip))
 (.seq (.rg [o1 4 (.lit [.b] [.bool true])])
 .ret))))))
def s_leqOrder : Sig := ⟨[.rd true [.d, .d, .sl (.own none) [.d, .d], .d], .rd true [.d, .d, .sl (.own none) [.d, .d], .d]], (.one false [.d])⟩
noncomputable def E_leqOrder : TEnv := envOf [(181, p_leqEdgeS)]
noncomputable def f_leqOrder (n : Nat) : (Int × Int × List (Int × Int) × Int) × (Int × Int × List (Int × Int) × Int) → Option ((Bool) × Unit) := runFn n E_leqOrder c_leqOrder [[.i .i64, .i .i64, .sl [.i .i64, .i .i64], .i .i64], [.i .i64, .i .i64, .sl [.i .i64, .i .i64], .i .i64]] [.b] [] [4] .no
noncomputable def g_leqOrder := f_leqOrder BIG
noncomputable def p_leqOrder : TSp := ⟨s_leqOrder, [[.i .i64, .i .i64, .sl [.i .i64, .i .i64], .i .i64], [.i .i64, .i .i64, .sl [.i .i64, .i .i64], .i .i64]], [.b], [], Ou.j .no, g_leqOrder⟩
theorem k_leqOrder : chkW PG E_leqOrder 275 s_leqOrder (c_leqOrder.ht 26) .no = some (c_leqOrder.wc E_leqOrder, [4]) := by kernel_rfl
theorem ok_leqOrder : p_leqOrder.Ok PG 275 := mkOk (env_cons ok_leqEdgeS (env_nil PG)) k_leqOrder (by kernel_rfl)
theorem e_leqOrder (n : Nat) (a0 : Int × Int × List (Int × Int) × Int) (a1 : Int × Int × List (Int × Int) × Int) : f_leqOrder n (a0, a1) =
  bif !decide (a0.1 = a1.1) then
   some (false, ())
  else bif !decide (a0.2.1 = a1.2.1) then
   some (false, ())
  else Option.bind (g_leqEdgeS (a0.2.2.1, a1.2.2.1)) fun r0 =>
  bif !r0.1 then
   some (false, ())
  else bif !decide (a0.2.2.2 = a1.2.2.2) then
   some (false, ())
  else some (true, ()) := by kernel_rfl
/- laws.eqTask -/
def c_leqTask : TC :=
 (.seq (.rg [o1 2 (.a (.t 0)),
   o1 3 (.a (.t 1)),
   o1 4 (.lit [.b] [.bool false])])
 (.seq (.seq (.rg [o1 5 (.idx .nil),
   o1 6 (.load 2 [] 0 (.t 5) 4 false),
   o1 7 (.idx .nil),
   o1 8 (.load 3 [] 0 (.t 7) 4 false),
   o3 9 274 [.t 6, .t 8],
   o1 10 (.data .not [.t 9])])
 (.cond (.t 10)
  (.seq (.rg [o1 4 (.lit [.b] [.bool false])])
  .ret)
  .skip))
 (.seq (.seq (.rg [o1 11 (.idx .nil),
   o1 12 (.load 2 [] 4 (.t 11) 1 false),
   o1 13 (.idx .nil),
   o1 14 (.load 3 [] 4 (.t 13) 1 false),
   o1 15 (.data (.bin .neq) [.t 12, .t 14])])
 (.cond (.t 15)
  (.seq (.rg [o1 4 (.lit [.b] [.bool false])])
  .ret)
  .skip))
 (.seq (.seq (.rg [o1 16 (.idx .nil),
   o1 17 (.load 2 [] 5 (.t 16) 4 false),
   o1 18 (.idx .nil),
   o1 19 (.load 3 [] 5 (.t 18) 4 false),
   o3 20 275 [.t 17, .t 19],
   o1 21 (.data .not [.t 20])])
 (.cond (.t 21)
  (.seq (.rg [o1 4 (.lit [.b] [.bool false])])
  .ret)
  .skip))
 (.seq (.rg [o1 4 (.lit [.b] [.bool true])])
 .ret)))))
def s_leqTask : Sig := ⟨[.rd true [.d, .d, .d, .d, .d, .d, .d, .sl (.own none) [.d, .d], .d], .rd true [.d, .d, .d, .d, .d, .d, .d, .sl (.own none) [.d, .d], .d]], (.one false [.d])⟩
noncomputable def E_leqTask : TEnv := envOf [(274, p_leqAsk), (275, p_leqOrder)]
noncomputable def f_leqTask (n : Nat) : (Int × Int × Int × Int × Int × Int × Int × List (Int × Int) × Int) × (Int × Int × Int × Int × Int × Int × Int × List (Int × Int) × Int) → Option ((Bool) × Unit) := runFn n E_leqTask c_leqTask [[.i .i64, .i .i64, .i .i64, .i .i64, .i .i64, .i .i64, .i .i64, .sl [.i .i64, .i .i64], .i .i64], [.i .i64, .i .i64, .i .i64, .i .i64, .i .i64, .i .i64, .i .i64, .sl [.i .i64, .i .i64], .i .i64]] [.b] [] [4] .no
noncomputable def g_leqTask := f_leqTask BIG
noncomputable def p_leqTask : TSp := ⟨s_leqTask, [[.i .i64, .i .i64, .i .i64, .i .i64, .i .i64, .i .i64, .i .i64, .sl [.i .i64, .i .i64], .i .i64], [.i .i64, .i .i64, .i .i64, .i .i64, .i .i64, .i .i64, .i .i64, .sl [.i .i64, .i .i64], .i .i64]], [.b], [], Ou.j .no, g_leqTask⟩
theorem k_leqTask : chkW PG E_leqTask 183 s_leqTask (c_leqTask.ht 22) .no = some (c_leqTask.wc E_leqTask, [4]) := by kernel_rfl
theorem ok_leqTask : p_leqTask.Ok PG 183 := mkOk (env_cons ok_leqAsk (env_cons ok_leqOrder (env_nil PG))) k_leqTask (by kernel_rfl)
theorem e_leqTask (n : Nat) (a0 : Int × Int × Int × Int × Int × Int × Int × List (Int × Int) × Int) (a1 : Int × Int × Int × Int × Int × Int × Int × List (Int × Int) × Int) : f_leqTask n (a0, a1) =
  Option.bind (g_leqAsk ((a0.1, a0.2.1, a0.2.2.1, a0.2.2.2.1), (a1.1, a1.2.1, a1.2.2.1, a1.2.2.2.1))) fun r0 =>
  bif !r0.1 then
   some (false, ())
  else bif !decide (a0.2.2.2.2.1 = a1.2.2.2.2.1) then
   some (false, ())
  else Option.bind (g_leqOrder (a0.2.2.2.2.2, a1.2.2.2.2.2)) fun r1 =>
  bif !r1.1 then
   some (false, ())
  else some (true, ()) := by kernel_rfl
/- laws.eqSaid -/
def c_leqSaid : TC :=
 (.seq (.rg [o1 2 (.a (.t 0)),
   o1 3 (.a (.t 1)),
   o1 4 (.lit [.b] [.bool false])])
 (.seq (.seq (.rg [o1 5 (.idx .nil),
   o1 6 (.load 2 [] 0 (.t 5) 1 false),
   o1 7 (.idx .nil),
   o1 8 (.load 3 [] 0 (.t 7) 1 false),
   o1 9 (.data (.bin .neq) [.t 6, .t 8])])
 (.cond (.t 9)
  (.seq (.rg [o1 4 (.lit [.b] [.bool false])])
  .ret)
  .skip))
 (.seq (.seq (.rg [o1 10 (.idx .nil),
   o1 11 (.load 2 [] 1 (.t 10) 4 false),
   o1 12 (.idx .nil),
   o1 13 (.load 3 [] 1 (.t 12) 4 false),
   o3 14 274 [.t 11, .t 13],
   o1 15 (.data .not [.t 14])])
 (.cond (.t 15)
  (.seq (.rg [o1 4 (.lit [.b] [.bool false])])
  .ret)
  .skip))
 (.seq (.seq (.rg [o1 16 (.idx .nil),
   o1 17 (.load 2 [] 5 (.t 16) 1 false),
   o1 18 (.idx .nil),
   o1 19 (.load 3 [] 5 (.t 18) 1 false),
   o1 20 (.data (.bin .neq) [.t 17, .t 19])])
 (.cond (.t 20)
  (.seq (.rg [o1 4 (.lit [.b] [.bool false])])
  .ret)
  .skip))
 (.seq (.rg [o1 4 (.lit [.b] [.bool true])])
 .ret)))))
def s_leqSaid : Sig := ⟨[.rd true [.d, .d, .d, .d, .d, .d], .rd true [.d, .d, .d, .d, .d, .d]], (.one false [.d])⟩
noncomputable def E_leqSaid : TEnv := envOf [(274, p_leqAsk)]
noncomputable def f_leqSaid (n : Nat) : (Int × Int × Int × Int × Int × Int) × (Int × Int × Int × Int × Int × Int) → Option ((Bool) × Unit) := runFn n E_leqSaid c_leqSaid [[.i .i64, .i .i64, .i .i64, .i .i64, .i .i64, .i .i64], [.i .i64, .i .i64, .i .i64, .i .i64, .i .i64, .i .i64]] [.b] [] [4] .no
noncomputable def g_leqSaid := f_leqSaid BIG
noncomputable def p_leqSaid : TSp := ⟨s_leqSaid, [[.i .i64, .i .i64, .i .i64, .i .i64, .i .i64, .i .i64], [.i .i64, .i .i64, .i .i64, .i .i64, .i .i64, .i .i64]], [.b], [], Ou.j .no, g_leqSaid⟩
theorem k_leqSaid : chkW PG E_leqSaid 289 s_leqSaid (c_leqSaid.ht 21) .no = some (c_leqSaid.wc E_leqSaid, [4]) := by kernel_rfl
theorem ok_leqSaid : p_leqSaid.Ok PG 289 := mkOk (env_cons ok_leqAsk (env_nil PG)) k_leqSaid (by kernel_rfl)
theorem e_leqSaid (n : Nat) (a0 : Int × Int × Int × Int × Int × Int) (a1 : Int × Int × Int × Int × Int × Int) : f_leqSaid n (a0, a1) =
  bif !decide (a0.1 = a1.1) then
   some (false, ())
  else Option.bind (g_leqAsk ((a0.2.1, a0.2.2.1, a0.2.2.2.1, a0.2.2.2.2.1), (a1.2.1, a1.2.2.1, a1.2.2.2.1, a1.2.2.2.2.1))) fun r0 =>
  bif !r0.1 then
   some (false, ())
  else bif !decide (a0.2.2.2.2.2 = a1.2.2.2.2.2) then
   some (false, ())
  else some (true, ()) := by kernel_rfl
/- laws.eqSaidS -/
def c_leqSaidS : TC :=
 (.seq (.rg [o1 4 (.lit [.b] [.bool false])])
 (.seq (.seq (.rg [o1 6 (.copy 0),
   o1 7 (.len 6),
   o1 8 (.copy 1),
   o1 9 (.len 8),
   o1 10 (.data (.bin .neq) [.t 7, .t 9])])
 (.cond (.t 10)
  (.seq (.rg [o1 4 (.lit [.b] [.bool false])])
  .ret)
  .skip))
 (.seq (.join [] 134215728 (some [⟨4, [.b], false⟩]) (.seq (.rg [o1 5 (.lit [.i .i64] [.int .i64 (0)])])
 (.block 0 (.loop [⟨5, [.i .i64], false⟩] 134215728
  (.seq (.seq (.rg [o1 11 (.copy 5),
    o1 12 (.copy 0),
    o1 13 (.len 12),
    o1 14 (.data (.bin .lss) [.t 11, .t 13])])
  (.cond (.t 14)
   .skip
   (.exit 0)))
  (.seq (.block 1 (.seq (.rg [o1 17 (.copy 0),
    o1 18 (.copy 5),
    o1 19 (.index 17 (.t 18)),
    o1 20 (.load 17 [(0, 6)] 0 (.t 19) 6 false),
    o1 21 (.copy 1),
    o1 22 (.copy 5),
    o1 23 (.index 21 (.t 22)),
    o1 24 (.load 21 [(0, 6)] 0 (.t 23) 6 false),
    o3 25 289 [.t 20, .t 24],
    o1 26 (.data .not [.t 25])])
  (.cond (.t 26)
   (.seq (.rg [o1 4 (.lit [.b] [.bool false])])
   .ret)
   .skip)))
  (.rg [o1 15 (.copy 5),
    o1 16 (.data (.bin .add) [.t 15, .c (.int .i64 (1))]),
    o1 5 (.copy 16)])))))))
 (.seq (.rg [o1 4 (.lit [.b] [.bool true])])
 .ret))))
def s_leqSaidS : Sig := ⟨[.rd false [.sl (.own none) [.d, .d, .d, .d, .d, .d]], .rd false [.sl (.own none) [.d, .d, .d, .d, .d, .d]]], (.one false [.d])⟩
noncomputable def E_leqSaidS : TEnv := envOf [(289, p_leqSaid)]
noncomputable def f_leqSaidS (n : Nat) : (List (Int × Int × Int × Int × Int × Int)) × (List (Int × Int × Int × Int × Int × Int)) → Option ((Bool) × Unit) := runFn n E_leqSaidS c_leqSaidS [[.sl [.i .i64, .i .i64, .i .i64, .i .i64, .i .i64, .i .i64]], [.sl [.i .i64, .i .i64, .i .i64, .i .i64, .i .i64, .i .i64]]] [.b] [] [4] .no
noncomputable def g_leqSaidS := f_leqSaidS BIG
noncomputable def p_leqSaidS : TSp := ⟨s_leqSaidS, [[.sl [.i .i64, .i .i64, .i .i64, .i .i64, .i .i64, .i .i64]], [.sl [.i .i64, .i .i64, .i .i64, .i .i64, .i .i64, .i .i64]]], [.b], [], Ou.j .no, g_leqSaidS⟩
theorem k_leqSaidS : chkW PG E_leqSaidS 184 s_leqSaidS (c_leqSaidS.ht 27) .no = some (c_leqSaidS.wc E_leqSaidS, [4]) := by kernel_rfl
theorem ok_leqSaidS : p_leqSaidS.Ok PG 184 := mkOk (env_cons ok_leqSaid (env_nil PG)) k_leqSaidS (by kernel_rfl)
theorem e_leqSaidS (n : Nat) (a0 : List (Int × Int × Int × Int × Int × Int)) (a1 : List (Int × Int × Int × Int × Int × Int)) : f_leqSaidS n (a0, a1) =
  bif !decide ((a0.length : Int) = (a1.length : Int)) then
   some (false, ())
  else Option.bind (loopT n (X := Int) (B := (Unit) ⊕ (Bool)) (fun self1 x0 =>
    bif decide (x0 < (a0.length : Int)) then
     bnd a0.length x0 fun n2 =>
     Option.bind a0[n2]? fun y3 =>
     bnd a1.length x0 fun n4 =>
     Option.bind a1[n4]? fun y5 =>
     Option.bind (g_leqSaid (y3, y5)) fun r6 =>
     bif !r6.1 then
      some (Sum.inr false)
     else self1 (IntKind.wrap .i64 (x0 + (1 : Int)))
    else some (Sum.inl ())) (0 : Int) : Option ((Unit) ⊕ (Bool))) fun y => match y with
  | .inl x7 =>
   some (true, ())
  | .inr x7 =>
   some (x7, ()) := by kernel_rfl
/- laws.eqHead -/
def c_leqHead : TC :=
 (.seq (.rg [o1 2 (.a (.t 0)),
   o1 3 (.a (.t 1)),
   o1 4 (.lit [.b] [.bool false])])
 (.seq (.seq (.rg [o1 5 (.idx .nil),
   o1 6 (.load 2 [] 0 (.t 5) 1 false),
   o1 7 (.idx .nil),
   o1 8 (.load 3 [] 0 (.t 7) 1 false),
   o1 9 (.data (.bin .neq) [.t 6, .t 8])])
 (.cond (.t 9)
  (.seq (.rg [o1 4 (.lit [.b] [.bool false])])
  .ret)
  .skip))
 (.seq (.seq (.rg [o1 10 (.idx .nil),
   o1 11 (.load 2 [] 1 (.t 10) 1 false),
   o1 12 (.idx .nil),
   o1 13 (.load 3 [] 1 (.t 12) 1 false),
   o3 14 180 [.t 11, .t 13],
   o1 15 (.data .not [.t 14])])
 (.cond (.t 15)
  (.seq (.rg [o1 4 (.lit [.b] [.bool false])])
  .ret)
  .skip))
 (.seq (.seq (.rg [o1 16 (.idx .nil),
   o1 17 (.load 2 [] 2 (.t 16) 1 false),
   o1 18 (.idx .nil),
   o1 19 (.load 3 [] 2 (.t 18) 1 false),
   o3 20 181 [.t 17, .t 19],
   o1 21 (.data .not [.t 20])])
 (.cond (.t 21)
  (.seq (.rg [o1 4 (.lit [.b] [.bool false])])
  .ret)
  .skip))
 (.seq (.seq (.rg [o1 22 (.idx .nil),
   o1 23 (.load 2 [] 3 (.t 22) 1 false),
   o1 24 (.idx .nil),
   o1 25 (.load 3 [] 3 (.t 24) 1 false),
   o3 26 182 [.t 23, .t 25],
   o1 27 (.data .not [.t 26])])
 (.cond (.t 27)
  (.seq (.rg [o1 4 (.lit [.b] [.bool false])])
  .ret)
  .skip))
 (.seq (.seq (.rg [o1 28 (.idx .nil),
   o1 29 (.load 2 [] 4 (.t 28) 1 false),
   o1 30 (.idx .nil),
   o1 31 (.load 3 [] 4 (.t 30) 1 false),
   o3 32 180 [.t 29, .t 31],
   o1 33 (.data .not [.t 32])])
 (.cond (.t 33)
  (.seq (.rg [o1 4 (.lit [.b] [.bool false])])
  .ret)
  .skip))
 (.seq (.seq (.rg [o1 34 (.idx .nil),
   o1 35 (.load 2 [] 5 (.t 34) 9 false),
   o1 36 (.idx .nil),
   o1 37 (.load 3 [] 5 (.t 36) 9 false),
   o3 38 183 [.t 35, .t 37],
   o1 39 (.data .not [.t 38])])
 (.cond (.t 39)
  (.seq (.rg [o1 4 (.lit [.b] [.bool false])])
  .ret)
  .skip))
 (.seq (.seq (.rg [o1 40 (.idx .nil),
   o1 41 (.load 2 [] 14 (.t 40) 1 false),
   o1 42 (.idx .nil),
   o1 43 (.load 3 [] 14 (.t 42) 1 false),
   o3 44 184 [.t 41, .t 43],
   o1 45 (.data .not [.t 44])])
 (.cond (.t 45)
  (.seq (.rg [o1 4 (.lit [.b] [.bool false])])
  .ret)
  .skip))
 (.seq (.rg [o1 4 (.lit [.b] [.bool true])])
 .ret)))))))))
def s_leqHead : Sig := ⟨[.rd true [.d, .sl (.own none) [.d], .sl (.own none) [.d, .d], .sl (.own none) [.sl (.own none) [.d]], .sl (.own none) [.d], .d, .d, .d, .d, .d, .d, .d, .sl (.own none) [.d, .d], .d, .sl (.own none) [.d, .d, .d, .d, .d, .d]], .rd true [.d, .sl (.own none) [.d], .sl (.own none) [.d, .d], .sl (.own none) [.sl (.own none) [.d]], .sl (.own none) [.d], .d, .d, .d, .d, .d, .d, .d, .sl (.own none) [.d, .d], .d, .sl (.own none) [.d, .d, .d, .d, .d, .d]]], (.one false [.d])⟩
noncomputable def E_leqHead : TEnv := envOf [(180, p_leqIntS), (181, p_leqEdgeS), (182, p_leqIntSS), (183, p_leqTask), (184, p_leqSaidS)]
noncomputable def f_leqHead (n : Nat) : (Int × List (Int) × List (Int × Int) × List (List (Int)) × List (Int) × Int × Int × Int × Int × Int × Int × Int × List (Int × Int) × Int × List (Int × Int × Int × Int × Int × Int)) × (Int × List (Int) × List (Int × Int) × List (List (Int)) × List (Int) × Int × Int × Int × Int × Int × Int × Int × List (Int × Int) × Int × List (Int × Int × Int × Int × Int × Int)) → Option ((Bool) × Unit) := runFn n E_leqHead c_leqHead [[.i .i64, .sl [.i .i64], .sl [.i .i64, .i .i64], .sl [.sl [.i .i64]], .sl [.i .i64], .i .i64, .i .i64, .i .i64, .i .i64, .i .i64, .i .i64, .i .i64, .sl [.i .i64, .i .i64], .i .i64, .sl [.i .i64, .i .i64, .i .i64, .i .i64, .i .i64, .i .i64]], [.i .i64, .sl [.i .i64], .sl [.i .i64, .i .i64], .sl [.sl [.i .i64]], .sl [.i .i64], .i .i64, .i .i64, .i .i64, .i .i64, .i .i64, .i .i64, .i .i64, .sl [.i .i64, .i .i64], .i .i64, .sl [.i .i64, .i .i64, .i .i64, .i .i64, .i .i64, .i .i64]]] [.b] [] [4] .no
noncomputable def g_leqHead := f_leqHead BIG
noncomputable def p_leqHead : TSp := ⟨s_leqHead, [[.i .i64, .sl [.i .i64], .sl [.i .i64, .i .i64], .sl [.sl [.i .i64]], .sl [.i .i64], .i .i64, .i .i64, .i .i64, .i .i64, .i .i64, .i .i64, .i .i64, .sl [.i .i64, .i .i64], .i .i64, .sl [.i .i64, .i .i64, .i .i64, .i .i64, .i .i64, .i .i64]], [.i .i64, .sl [.i .i64], .sl [.i .i64, .i .i64], .sl [.sl [.i .i64]], .sl [.i .i64], .i .i64, .i .i64, .i .i64, .i .i64, .i .i64, .i .i64, .i .i64, .sl [.i .i64, .i .i64], .i .i64, .sl [.i .i64, .i .i64, .i .i64, .i .i64, .i .i64, .i .i64]]], [.b], [], Ou.j .no, g_leqHead⟩
theorem k_leqHead : chkW PG E_leqHead 74 s_leqHead (c_leqHead.ht 46) .no = some (c_leqHead.wc E_leqHead, [4]) := by kernel_rfl
theorem ok_leqHead : p_leqHead.Ok PG 74 := mkOk (env_cons ok_leqIntS (env_cons ok_leqEdgeS (env_cons ok_leqIntSS (env_cons ok_leqTask (env_cons ok_leqSaidS (env_nil PG)))))) k_leqHead (by kernel_rfl)
theorem e_leqHead (n : Nat) (a0 : Int × List (Int) × List (Int × Int) × List ((List (Int))) × List (Int) × Int × Int × Int × Int × Int × Int × Int × List (Int × Int) × Int × List (Int × Int × Int × Int × Int × Int)) (a1 : Int × List (Int) × List (Int × Int) × List ((List (Int))) × List (Int) × Int × Int × Int × Int × Int × Int × Int × List (Int × Int) × Int × List (Int × Int × Int × Int × Int × Int)) : f_leqHead n (a0, a1) =
  bif !decide (a0.1 = a1.1) then
   some (false, ())
  else Option.bind (g_leqIntS (a0.2.1, a1.2.1)) fun r0 =>
  bif !r0.1 then
   some (false, ())
  else Option.bind (g_leqEdgeS (a0.2.2.1, a1.2.2.1)) fun r1 =>
  bif !r1.1 then
   some (false, ())
  else Option.bind (g_leqIntSS (a0.2.2.2.1, a1.2.2.2.1)) fun r2 =>
  bif !r2.1 then
   some (false, ())
  else Option.bind (g_leqIntS (a0.2.2.2.2.1, a1.2.2.2.2.1)) fun r3 =>
  bif !r3.1 then
   some (false, ())
  else Option.bind (g_leqTask ((a0.2.2.2.2.2.1, a0.2.2.2.2.2.2.1, a0.2.2.2.2.2.2.2.1, a0.2.2.2.2.2.2.2.2.1, a0.2.2.2.2.2.2.2.2.2.1, a0.2.2.2.2.2.2.2.2.2.2.1, a0.2.2.2.2.2.2.2.2.2.2.2.1, a0.2.2.2.2.2.2.2.2.2.2.2.2.1, a0.2.2.2.2.2.2.2.2.2.2.2.2.2.1), (a1.2.2.2.2.2.1, a1.2.2.2.2.2.2.1, a1.2.2.2.2.2.2.2.1, a1.2.2.2.2.2.2.2.2.1, a1.2.2.2.2.2.2.2.2.2.1, a1.2.2.2.2.2.2.2.2.2.2.1, a1.2.2.2.2.2.2.2.2.2.2.2.1, a1.2.2.2.2.2.2.2.2.2.2.2.2.1, a1.2.2.2.2.2.2.2.2.2.2.2.2.2.1))) fun r4 =>
  bif !r4.1 then
   some (false, ())
  else Option.bind (g_leqSaidS (a0.2.2.2.2.2.2.2.2.2.2.2.2.2.2, a1.2.2.2.2.2.2.2.2.2.2.2.2.2.2)) fun r5 =>
  bif !r5.1 then
   some (false, ())
  else some (true, ()) := by kernel_rfl
/- laws.eqAnswer -/
def c_leqAnswer : TC :=
 (.seq (.rg [o1 2 (.a (.t 0)),
   o1 3 (.a (.t 1)),
   o1 4 (.lit [.b] [.bool false])])
 (.seq (.seq (.rg [o1 5 (.idx .nil),
   o1 6 (.load 2 [] 0 (.t 5) 1 false),
   o1 7 (.idx .nil),
   o1 8 (.load 3 [] 0 (.t 7) 1 false),
   o1 9 (.data (.bin .neq) [.t 6, .t 8])])
 (.cond (.t 9)
  (.seq (.rg [o1 4 (.lit [.b] [.bool false])])
  .ret)
  .skip))
 (.seq (.seq (.rg [o1 10 (.idx .nil),
   o1 11 (.load 2 [] 1 (.t 10) 1 false),
   o1 12 (.idx .nil),
   o1 13 (.load 3 [] 1 (.t 12) 1 false),
   o1 14 (.data (.beq true) [.t 11, .t 13])])
 (.cond (.t 14)
  (.seq (.rg [o1 4 (.lit [.b] [.bool false])])
  .ret)
  .skip))
 (.seq (.seq (.rg [o1 15 (.idx .nil),
   o1 16 (.load 2 [] 2 (.t 15) 1 false),
   o1 17 (.idx .nil),
   o1 18 (.load 3 [] 2 (.t 17) 1 false),
   o3 19 181 [.t 16, .t 18],
   o1 20 (.data .not [.t 19])])
 (.cond (.t 20)
  (.seq (.rg [o1 4 (.lit [.b] [.bool false])])
  .ret)
  .skip))
 (.seq (.seq (.rg [o1 21 (.idx .nil),
   o1 22 (.load 2 [] 3 (.t 21) 1 false),
   o1 23 (.idx .nil),
   o1 24 (.load 3 [] 3 (.t 23) 1 false),
   o3 25 180 [.t 22, .t 24],
   o1 26 (.data .not [.t 25])])
 (.cond (.t 26)
  (.seq (.rg [o1 4 (.lit [.b] [.bool false])])
  .ret)
  .skip))
 (.seq (.rg [o1 4 (.lit [.b] [.bool true])])
 .ret))))))
def s_leqAnswer : Sig := ⟨[.rd true [.d, .d, .sl (.own none) [.d, .d], .sl (.own none) [.d]], .rd true [.d, .d, .sl (.own none) [.d, .d], .sl (.own none) [.d]]], (.one false [.d])⟩
noncomputable def E_leqAnswer : TEnv := envOf [(181, p_leqEdgeS), (180, p_leqIntS)]
noncomputable def f_leqAnswer (n : Nat) : (Int × Bool × List (Int × Int) × List (Int)) × (Int × Bool × List (Int × Int) × List (Int)) → Option ((Bool) × Unit) := runFn n E_leqAnswer c_leqAnswer [[.i .i64, .b, .sl [.i .i64, .i .i64], .sl [.i .i64]], [.i .i64, .b, .sl [.i .i64, .i .i64], .sl [.i .i64]]] [.b] [] [4] .no
noncomputable def g_leqAnswer := f_leqAnswer BIG
noncomputable def p_leqAnswer : TSp := ⟨s_leqAnswer, [[.i .i64, .b, .sl [.i .i64, .i .i64], .sl [.i .i64]], [.i .i64, .b, .sl [.i .i64, .i .i64], .sl [.i .i64]]], [.b], [], Ou.j .no, g_leqAnswer⟩
theorem k_leqAnswer : chkW PG E_leqAnswer 75 s_leqAnswer (c_leqAnswer.ht 27) .no = some (c_leqAnswer.wc E_leqAnswer, [4]) := by kernel_rfl
theorem ok_leqAnswer : p_leqAnswer.Ok PG 75 := mkOk (env_cons ok_leqEdgeS (env_cons ok_leqIntS (env_nil PG))) k_leqAnswer (by kernel_rfl)
theorem e_leqAnswer (n : Nat) (a0 : Int × Bool × List (Int × Int) × List (Int)) (a1 : Int × Bool × List (Int × Int) × List (Int)) : f_leqAnswer n (a0, a1) =
  bif !decide (a0.1 = a1.1) then
   some (false, ())
  else bif !(a0.2.1 == a1.2.1) then
   some (false, ())
  else Option.bind (g_leqEdgeS (a0.2.2.1, a1.2.2.1)) fun r0 =>
  bif !r0.1 then
   some (false, ())
  else Option.bind (g_leqIntS (a0.2.2.2, a1.2.2.2)) fun r1 =>
  bif !r1.1 then
   some (false, ())
  else some (true, ()) := by kernel_rfl
/- laws.markIntS -/
def c_lmarkIntS : TC :=
 (.seq (.rg [o1 4 (.lit [.i .i64] [.int .i64 (0)])])
 (.seq (.join [⟨0, [.sl [.i .i64]], false⟩, ⟨1, [.i .i64], false⟩] 262115 none (.seq (.rg [o1 5 (.lit [.i .i64] [.int .i64 (0)])])
 (.block 0 (.loop [⟨0, [.sl [.i .i64]], false⟩, ⟨1, [.i .i64], false⟩, ⟨5, [.i .i64], false⟩] 262115
  (.seq (.seq (.rg [o1 6 (.copy 5),
    ⟨true, [], [], .det 1 (.copy 0), [7], (some 7), none⟩,
    o1 8 (.len 7),
    o1 9 (.data (.bin .lss) [.t 6, .t 8])])
  (.cond (.t 9)
   .skip
   (.exit 0)))
  (.seq (.block 1 (.seq (.rg [⟨true, [], [], .det 1 (.copy 0), [12], (some 12), none⟩,
    o1 13 (.copy 5),
    o1 14 (.copy 1),
    o1 15 (.index 12 (.t 13)),
    o4 1 [0, 7, 12] (.store 0 [(0, 1)] 0 (.t 15) (.t 14))])
  (.rg [o1 16 (.copy 1),
    o1 17 (.data (.bin .add) [.t 16, .c (.int .i64 (1))]),
    o1 1 (.copy 17)])))
  (.rg [o1 10 (.copy 5),
    o1 11 (.data (.bin .add) [.t 10, .c (.int .i64 (1))]),
    o1 5 (.copy 11)])))))))
 (.seq (.rg [o1 18 (.copy 1),
   o1 4 (.copy 18)])
 .ret)))
def s_lmarkIntS : Sig := ⟨[.mt false [.sl (.own none) [.d]], .rd false [.d]], (.one false [.d])⟩
noncomputable def E_lmarkIntS : TEnv := envOf []
noncomputable def f_lmarkIntS (n : Nat) : List (Int) × Int → Option ((Int) × List (Int)) := runFn n E_lmarkIntS c_lmarkIntS [[.sl [.i .i64]], [.i .i64]] [.i .i64] [.sl [.i .i64]] [4] (.mt 0 0 0)
noncomputable def g_lmarkIntS := f_lmarkIntS BIG
noncomputable def p_lmarkIntS : TSp := ⟨s_lmarkIntS, [[.sl [.i .i64]], [.i .i64]], [.i .i64], [.sl [.i .i64]], Ou.j (.mt 0 0 0), g_lmarkIntS⟩
theorem k_lmarkIntS : chkW PG E_lmarkIntS 147 s_lmarkIntS (c_lmarkIntS.ht 19) (.mt 0 0 0) = some (c_lmarkIntS.wc E_lmarkIntS, [4]) := by kernel_rfl
theorem ok_lmarkIntS : p_lmarkIntS.Ok PG 147 := mkOk (env_nil PG) k_lmarkIntS (by kernel_rfl)
theorem e_lmarkIntS (n : Nat) (a0 : List (Int)) (a1 : Int) : f_lmarkIntS n (a0, a1) =
  Option.bind (loopT n (X := (List (Int)) × Int × Int) (B := (List (Int)) × Int) (fun self1 x0 =>
    bif decide (x0.2.2 < (x0.1.length : Int)) then
     bnd x0.1.length x0.2.2 fun n2 =>
     Option.bind x0.1[n2]? fun y3 =>
     self1 (x0.1.set n2 x0.2.1, IntKind.wrap .i64 (x0.2.1 + (1 : Int)), IntKind.wrap .i64 (x0.2.2 + (1 : Int)))
    else some (x0.1, x0.2.1)) (a0, a1, (0 : Int)) : Option ((List (Int)) × Int)) fun x4 =>
  some (x4.2, x4.1) := by kernel_rfl
/- laws.markEdgeS -/
def c_lmarkEdgeS : TC :=
 (.seq (.rg [o1 4 (.lit [.i .i64] [.int .i64 (0)])])
 (.seq (.join [⟨0, [.sl [.i .i64, .i .i64]], false⟩, ⟨1, [.i .i64], false⟩] 67108835 none (.seq (.rg [o1 5 (.lit [.i .i64] [.int .i64 (0)])])
 (.block 0 (.loop [⟨0, [.sl [.i .i64, .i .i64]], false⟩, ⟨1, [.i .i64], false⟩, ⟨5, [.i .i64], false⟩] 67108835
  (.seq (.seq (.rg [o1 6 (.copy 5),
    ⟨true, [], [], .det 1 (.copy 0), [7], (some 7), none⟩,
    o1 8 (.len 7),
    o1 9 (.data (.bin .lss) [.t 6, .t 8])])
  (.cond (.t 9)
   .skip
   (.exit 0)))
  (.seq (.block 1 (.seq (.rg [⟨true, [], [], .det 1 (.copy 0), [12], (some 12), none⟩,
    o1 13 (.copy 5),
    o1 14 (.copy 1),
    o1 15 (.index 12 (.t 13)),
    o1 16 (.idx (.t 15)),
    o4 1 [0, 7, 12] (.store 0 [(0, 2)] 0 (.t 16) (.t 14))])
  (.seq (.rg [o1 17 (.copy 1),
    o1 18 (.data (.bin .add) [.t 17, .c (.int .i64 (1))]),
    o1 1 (.copy 18)])
  (.seq (.rg [⟨true, [], [], .det 1 (.copy 0), [19], (some 19), none⟩,
    o1 20 (.copy 5),
    o1 21 (.copy 1),
    o1 22 (.index 19 (.t 20)),
    o1 23 (.idx (.t 22)),
    o4 1 [0, 19] (.store 0 [(0, 2)] 1 (.t 23) (.t 21))])
  (.rg [o1 24 (.copy 1),
    o1 25 (.data (.bin .add) [.t 24, .c (.int .i64 (1))]),
    o1 1 (.copy 25)])))))
  (.rg [o1 10 (.copy 5),
    o1 11 (.data (.bin .add) [.t 10, .c (.int .i64 (1))]),
    o1 5 (.copy 11)])))))))
 (.seq (.rg [o1 26 (.copy 1),
   o1 4 (.copy 26)])
 .ret)))
def s_lmarkEdgeS : Sig := ⟨[.mt false [.sl (.own none) [.d, .d]], .rd false [.d]], (.one false [.d])⟩
noncomputable def E_lmarkEdgeS : TEnv := envOf []
noncomputable def f_lmarkEdgeS (n : Nat) : (List (Int × Int)) × Int → Option ((Int) × List (Int × Int)) := runFn n E_lmarkEdgeS c_lmarkEdgeS [[.sl [.i .i64, .i .i64]], [.i .i64]] [.i .i64] [.sl [.i .i64, .i .i64]] [4] (.mt 0 0 0)
noncomputable def g_lmarkEdgeS := f_lmarkEdgeS BIG
noncomputable def p_lmarkEdgeS : TSp := ⟨s_lmarkEdgeS, [[.sl [.i .i64, .i .i64]], [.i .i64]], [.i .i64], [.sl [.i .i64, .i .i64]], Ou.j (.mt 0 0 0), g_lmarkEdgeS⟩
theorem k_lmarkEdgeS : chkW PG E_lmarkEdgeS 146 s_lmarkEdgeS (c_lmarkEdgeS.ht 27) (.mt 0 0 0) = some (c_lmarkEdgeS.wc E_lmarkEdgeS, [4]) := by kernel_rfl
theorem ok_lmarkEdgeS : p_lmarkEdgeS.Ok PG 146 := mkOk (env_nil PG) k_lmarkEdgeS (by kernel_rfl)
theorem e_lmarkEdgeS (n : Nat) (a0 : List (Int × Int)) (a1 : Int) : f_lmarkEdgeS n (a0, a1) =
  Option.bind (loopT n (X := (List (Int × Int)) × Int × Int) (B := (List (Int × Int)) × Int) (fun self1 x0 =>
    bif decide (x0.2.2 < (x0.1.length : Int)) then
     bnd x0.1.length x0.2.2 fun n2 =>
     Option.bind x0.1[n2]? fun y3 =>
     bnd (x0.1.set n2 (x0.2.1, y3.2)).length x0.2.2 fun n4 =>
     Option.bind (x0.1.set n2 (x0.2.1, y3.2))[n4]? fun y5 =>
     self1 ((x0.1.set n2 (x0.2.1, y3.2)).set n4 (y5.1, IntKind.wrap .i64 (x0.2.1 + (1 : Int))), IntKind.wrap .i64 ((IntKind.wrap .i64 (x0.2.1 + (1 : Int))) + (1 : Int)), IntKind.wrap .i64 (x0.2.2 + (1 : Int)))
    else some (x0.1, x0.2.1)) (a0, a1, (0 : Int)) : Option ((List (Int × Int)) × Int)) fun x6 =>
  some (x6.2, x6.1) := by kernel_rfl
/- laws.markIntSS -/
def c_lmarkIntSS : TC :=
 (.seq (.rg [o1 4 (.lit [.i .i64] [.int .i64 (0)])])
 (.seq (.join [⟨0, [.sl [.sl [.i .i64]]], false⟩, ⟨1, [.i .i64], false⟩] 262115 none (.seq (.rg [o1 5 (.lit [.i .i64] [.int .i64 (0)])])
 (.block 0 (.loop [⟨0, [.sl [.sl [.i .i64]]], false⟩, ⟨1, [.i .i64], false⟩, ⟨5, [.i .i64], false⟩] 262115
  (.seq (.seq (.rg [o1 6 (.copy 5),
    ⟨true, [], [], .det 1 (.copy 0), [7], (some 7), none⟩,
    o1 8 (.len 7),
    o1 9 (.data (.bin .lss) [.t 6, .t 8])])
  (.cond (.t 9)
   .skip
   (.exit 0)))
  (.seq (.block 1 (.rg [⟨true, [], [], .det 1 (.copy 0), [12], (some 12), none⟩,
    o1 13 (.copy 5),
    o1 14 (.index 12 (.t 13)),
    o1 15 (.load 0 [(0, 1)] 0 (.t 14) 1 true),
    o1 16 (.copy 1),
    ⟨false, [], [], .call 2 147 [.t 15, .t 16] (.mt 0 [(0, 1)] 0 15 0), [17, 0, 7, 15, 14, 12], (some 17), none⟩,
    o1 1 (.copy 17)]))
  (.rg [o1 10 (.copy 5),
    o1 11 (.data (.bin .add) [.t 10, .c (.int .i64 (1))]),
    o1 5 (.copy 11)])))))))
 (.seq (.rg [o1 18 (.copy 1),
   o1 4 (.copy 18)])
 .ret)))
def s_lmarkIntSS : Sig := ⟨[.mt false [.sl (.own none) [.sl (.own none) [.d]]], .rd false [.d]], (.one false [.d])⟩
noncomputable def E_lmarkIntSS : TEnv := envOf [(147, p_lmarkIntS)]
noncomputable def f_lmarkIntSS (n : Nat) : List (List (Int)) × Int → Option ((Int) × List (List (Int))) := runFn n E_lmarkIntSS c_lmarkIntSS [[.sl [.sl [.i .i64]]], [.i .i64]] [.i .i64] [.sl [.sl [.i .i64]]] [4] (.mt 0 0 0)
noncomputable def g_lmarkIntSS := f_lmarkIntSS BIG
noncomputable def p_lmarkIntSS : TSp := ⟨s_lmarkIntSS, [[.sl [.sl [.i .i64]]], [.i .i64]], [.i .i64], [.sl [.sl [.i .i64]]], Ou.j (.mt 0 0 0), g_lmarkIntSS⟩
theorem k_lmarkIntSS : chkW PG E_lmarkIntSS 185 s_lmarkIntSS (c_lmarkIntSS.ht 19) (.mt 0 0 0) = some (c_lmarkIntSS.wc E_lmarkIntSS, [4]) := by kernel_rfl
theorem ok_lmarkIntSS : p_lmarkIntSS.Ok PG 185 := mkOk (env_cons ok_lmarkIntS (env_nil PG)) k_lmarkIntSS (by kernel_rfl)
theorem e_lmarkIntSS (n : Nat) (a0 : List ((List (Int)))) (a1 : Int) : f_lmarkIntSS n (a0, a1) =
  Option.bind (loopT n (X := (List ((List (Int)))) × Int × Int) (B := (List ((List (Int)))) × Int) (fun self1 x0 =>
    bif decide (x0.2.2 < (x0.1.length : Int)) then
     bnd x0.1.length x0.2.2 fun n2 =>
     Option.bind x0.1[n2]? fun y3 =>
     Option.bind (g_lmarkIntS (y3, x0.2.1)) fun r4 =>
     Option.bind x0.1[n2]? fun y5 =>
     self1 (x0.1.set n2 r4.2, r4.1, IntKind.wrap .i64 (x0.2.2 + (1 : Int)))
    else some (x0.1, x0.2.1)) (a0, a1, (0 : Int)) : Option ((List ((List (Int)))) × Int)) fun x6 =>
  some (x6.2, x6.1) := by kernel_rfl
/- laws.markOrder -/
def c_lmarkOrder : TC :=
 (.seq (.rg [⟨false, [], [], .det 2 (.a (.t 0)), [2, 0], (some 2), none⟩,
   o1 4 (.lit [.i .i64] [.int .i64 (0)])])
 (.seq (.rg [o1 5 (.idx .nil),
   o1 6 (.load 2 [] 2 (.t 5) 1 true),
   o1 7 (.copy 1),
   ⟨false, [], [], .call 2 146 [.t 6, .t 7] (.mt 2 [] 2 6 0), [8, 2, 6], (some 8), none⟩,
   o1 1 (.copy 8)])
 (.seq (.rg [o1 9 (.copy 1),
   o1 4 (.copy 9)])
 .ret)))
def s_lmarkOrder : Sig := ⟨[.mt true [.d, .d, .sl (.own none) [.d, .d], .d], .rd false [.d]], (.one false [.d])⟩
noncomputable def E_lmarkOrder : TEnv := envOf [(146, p_lmarkEdgeS)]
noncomputable def f_lmarkOrder (n : Nat) : (Int × Int × List (Int × Int) × Int) × Int → Option ((Int) × Int × Int × List (Int × Int) × Int) := runFn n E_lmarkOrder c_lmarkOrder [[.i .i64, .i .i64, .sl [.i .i64, .i .i64], .i .i64], [.i .i64]] [.i .i64] [.i .i64, .i .i64, .sl [.i .i64, .i .i64], .i .i64] [4] (.mt 0 2 0)
noncomputable def g_lmarkOrder := f_lmarkOrder BIG
noncomputable def p_lmarkOrder : TSp := ⟨s_lmarkOrder, [[.i .i64, .i .i64, .sl [.i .i64, .i .i64], .i .i64], [.i .i64]], [.i .i64], [.i .i64, .i .i64, .sl [.i .i64, .i .i64], .i .i64], Ou.j (.mt 0 2 0), g_lmarkOrder⟩
theorem k_lmarkOrder : chkW PG E_lmarkOrder 290 s_lmarkOrder (c_lmarkOrder.ht 10) (.mt 0 2 0) = some (c_lmarkOrder.wc E_lmarkOrder, [4]) := by kernel_rfl
theorem ok_lmarkOrder : p_lmarkOrder.Ok PG 290 := mkOk (env_cons ok_lmarkEdgeS (env_nil PG)) k_lmarkOrder (by kernel_rfl)
theorem e_lmarkOrder (n : Nat) (a0 : Int × Int × List (Int × Int) × Int) (a1 : Int) : f_lmarkOrder n (a0, a1) =
  Option.bind (g_lmarkEdgeS (a0.2.2.1, a1)) fun r0 =>
  some (r0.1, (a0.1, a0.2.1, r0.2, a0.2.2.2)) := by kernel_rfl
/- laws.markTask -/
def c_lmarkTask : TC :=
 (.seq (.rg [⟨false, [], [], .det 2 (.a (.t 0)), [2, 0], (some 2), none⟩,
   o1 4 (.lit [.i .i64] [.int .i64 (0)])])
 (.seq (.rg [o1 5 (.idx .nil),
   o1 6 (.load 2 [] 5 (.t 5) 4 true),
   o1 7 (.copy 1),
   ⟨false, [], [], .call 2 290 [.t 6, .t 7] (.mt 2 [] 5 6 0), [8, 2, 6], (some 8), none⟩,
   o1 1 (.copy 8)])
 (.seq (.rg [o1 9 (.copy 1),
   o1 4 (.copy 9)])
 .ret)))
def s_lmarkTask : Sig := ⟨[.mt true [.d, .d, .d, .d, .d, .d, .d, .sl (.own none) [.d, .d], .d], .rd false [.d]], (.one false [.d])⟩
noncomputable def E_lmarkTask : TEnv := envOf [(290, p_lmarkOrder)]
noncomputable def f_lmarkTask (n : Nat) : (Int × Int × Int × Int × Int × Int × Int × List (Int × Int) × Int) × Int → Option ((Int) × Int × Int × Int × Int × Int × Int × Int × List (Int × Int) × Int) := runFn n E_lmarkTask c_lmarkTask [[.i .i64, .i .i64, .i .i64, .i .i64, .i .i64, .i .i64, .i .i64, .sl [.i .i64, .i .i64], .i .i64], [.i .i64]] [.i .i64] [.i .i64, .i .i64, .i .i64, .i .i64, .i .i64, .i .i64, .i .i64, .sl [.i .i64, .i .i64], .i .i64] [4] (.mt 0 2 0)
noncomputable def g_lmarkTask := f_lmarkTask BIG
noncomputable def p_lmarkTask : TSp := ⟨s_lmarkTask, [[.i .i64, .i .i64, .i .i64, .i .i64, .i .i64, .i .i64, .i .i64, .sl [.i .i64, .i .i64], .i .i64], [.i .i64]], [.i .i64], [.i .i64, .i .i64, .i .i64, .i .i64, .i .i64, .i .i64, .i .i64, .sl [.i .i64, .i .i64], .i .i64], Ou.j (.mt 0 2 0), g_lmarkTask⟩
theorem k_lmarkTask : chkW PG E_lmarkTask 186 s_lmarkTask (c_lmarkTask.ht 10) (.mt 0 2 0) = some (c_lmarkTask.wc E_lmarkTask, [4]) := by kernel_rfl
theorem ok_lmarkTask : p_lmarkTask.Ok PG 186 := mkOk (env_cons ok_lmarkOrder (env_nil PG)) k_lmarkTask (by kernel_rfl)
theorem e_lmarkTask (n : Nat) (a0 : Int × Int × Int × Int × Int × Int × Int × List (Int × Int) × Int) (a1 : Int) : f_lmarkTask n (a0, a1) =
  Option.bind (g_lmarkOrder (a0.2.2.2.2.2, a1)) fun r0 =>
  some (r0.1, (a0.1, a0.2.1, a0.2.2.1, a0.2.2.2.1, a0.2.2.2.2.1, a0.2.2.2.2.2.1, a0.2.2.2.2.2.2.1, r0.2.2.2.1, a0.2.2.2.2.2.2.2.2)) := by kernel_rfl
/- laws.markSaidS -/
def c_lmarkSaidS : TC :=
 (.seq (.rg [o1 4 (.lit [.i .i64] [.int .i64 (0)])])
 (.seq (.join [⟨0, [.sl [.i .i64, .i .i64, .i .i64, .i .i64, .i .i64, .i .i64]], false⟩, ⟨1, [.i .i64], false⟩] 288230376151711715 none (.seq (.rg [o1 5 (.lit [.i .i64] [.int .i64 (0)])])
 (.block 0 (.loop [⟨0, [.sl [.i .i64, .i .i64, .i .i64, .i .i64, .i .i64, .i .i64]], false⟩, ⟨1, [.i .i64], false⟩, ⟨5, [.i .i64], false⟩] 288230376151711715
  (.seq (.seq (.rg [o1 6 (.copy 5),
    ⟨true, [], [], .det 1 (.copy 0), [7], (some 7), none⟩,
    o1 8 (.len 7),
    o1 9 (.data (.bin .lss) [.t 6, .t 8])])
  (.cond (.t 9)
   .skip
   (.exit 0)))
  (.seq (.block 1 (.seq (.rg [⟨true, [], [], .det 1 (.copy 0), [12], (some 12), none⟩,
    o1 13 (.copy 5),
    o1 14 (.copy 1),
    o1 15 (.index 12 (.t 13)),
    o1 16 (.idx (.t 15)),
    o4 1 [0, 7, 12] (.store 0 [(0, 6)] 0 (.t 16) (.t 14))])
  (.seq (.rg [o1 17 (.copy 1),
    o1 18 (.data (.bin .add) [.t 17, .c (.int .i64 (1))]),
    o1 1 (.copy 18)])
  (.seq (.rg [⟨true, [], [], .det 1 (.copy 0), [19], (some 19), none⟩,
    o1 20 (.copy 5),
    o1 21 (.copy 1),
    o1 22 (.index 19 (.t 20)),
    o1 23 (.idx (.t 22)),
    o1 24 (.idx (.t 23)),
    o4 1 [0, 19] (.store 0 [(0, 6)] 1 (.t 24) (.t 21))])
  (.seq (.rg [o1 25 (.copy 1),
    o1 26 (.data (.bin .add) [.t 25, .c (.int .i64 (1))]),
    o1 1 (.copy 26)])
  (.seq (.rg [⟨true, [], [], .det 1 (.copy 0), [27], (some 27), none⟩,
    o1 28 (.copy 5),
    o1 29 (.copy 1),
    o1 30 (.index 27 (.t 28)),
    o1 31 (.idx (.t 30)),
    o1 32 (.idx (.t 31)),
    o4 1 [0, 27] (.store 0 [(0, 6)] 2 (.t 32) (.t 29))])
  (.seq (.rg [o1 33 (.copy 1),
    o1 34 (.data (.bin .add) [.t 33, .c (.int .i64 (1))]),
    o1 1 (.copy 34)])
  (.seq (.rg [⟨true, [], [], .det 1 (.copy 0), [35], (some 35), none⟩,
    o1 36 (.copy 5),
    o1 37 (.copy 1),
    o1 38 (.index 35 (.t 36)),
    o1 39 (.idx (.t 38)),
    o1 40 (.idx (.t 39)),
    o4 1 [0, 35] (.store 0 [(0, 6)] 3 (.t 40) (.t 37))])
  (.seq (.rg [o1 41 (.copy 1),
    o1 42 (.data (.bin .add) [.t 41, .c (.int .i64 (1))]),
    o1 1 (.copy 42)])
  (.seq (.rg [⟨true, [], [], .det 1 (.copy 0), [43], (some 43), none⟩,
    o1 44 (.copy 5),
    o1 45 (.copy 1),
    o1 46 (.index 43 (.t 44)),
    o1 47 (.idx (.t 46)),
    o1 48 (.idx (.t 47)),
    o4 1 [0, 43] (.store 0 [(0, 6)] 4 (.t 48) (.t 45))])
  (.seq (.rg [o1 49 (.copy 1),
    o1 50 (.data (.bin .add) [.t 49, .c (.int .i64 (1))]),
    o1 1 (.copy 50)])
  (.seq (.rg [⟨true, [], [], .det 1 (.copy 0), [51], (some 51), none⟩,
    o1 52 (.copy 5),
    o1 53 (.copy 1),
    o1 54 (.index 51 (.t 52)),
    o1 55 (.idx (.t 54)),
    o4 1 [0, 51] (.store 0 [(0, 6)] 5 (.t 55) (.t 53))])
  (.rg [o1 56 (.copy 1),
    o1 57 (.data (.bin .add) [.t 56, .c (.int .i64 (1))]),
    o1 1 (.copy 57)])))))))))))))
  (.rg [o1 10 (.copy 5),
    o1 11 (.data (.bin .add) [.t 10, .c (.int .i64 (1))]),
    o1 5 (.copy 11)])))))))
 (.seq (.rg [o1 58 (.copy 1),
   o1 4 (.copy 58)])
 .ret)))
def s_lmarkSaidS : Sig := ⟨[.mt false [.sl (.own none) [.d, .d, .d, .d, .d, .d]], .rd false [.d]], (.one false [.d])⟩
noncomputable def E_lmarkSaidS : TEnv := envOf []
noncomputable def f_lmarkSaidS (n : Nat) : (List (Int × Int × Int × Int × Int × Int)) × Int → Option ((Int) × List (Int × Int × Int × Int × Int × Int)) := runFn n E_lmarkSaidS c_lmarkSaidS [[.sl [.i .i64, .i .i64, .i .i64, .i .i64, .i .i64, .i .i64]], [.i .i64]] [.i .i64] [.sl [.i .i64, .i .i64, .i .i64, .i .i64, .i .i64, .i .i64]] [4] (.mt 0 0 0)
noncomputable def g_lmarkSaidS := f_lmarkSaidS BIG
noncomputable def p_lmarkSaidS : TSp := ⟨s_lmarkSaidS, [[.sl [.i .i64, .i .i64, .i .i64, .i .i64, .i .i64, .i .i64]], [.i .i64]], [.i .i64], [.sl [.i .i64, .i .i64, .i .i64, .i .i64, .i .i64, .i .i64]], Ou.j (.mt 0 0 0), g_lmarkSaidS⟩
theorem k_lmarkSaidS : chkW PG E_lmarkSaidS 187 s_lmarkSaidS (c_lmarkSaidS.ht 59) (.mt 0 0 0) = some (c_lmarkSaidS.wc E_lmarkSaidS, [4]) := by kernel_rfl
theorem ok_lmarkSaidS : p_lmarkSaidS.Ok PG 187 := mkOk (env_nil PG) k_lmarkSaidS (by kernel_rfl)
theorem e_lmarkSaidS (n : Nat) (a0 : List (Int × Int × Int × Int × Int × Int)) (a1 : Int) : f_lmarkSaidS n (a0, a1) =
  Option.bind (loopT n (X := (List (Int × Int × Int × Int × Int × Int)) × Int × Int) (B := (List (Int × Int × Int × Int × Int × Int)) × Int) (fun self1 x0 =>
    bif decide (x0.2.2 < (x0.1.length : Int)) then
     bnd x0.1.length x0.2.2 fun n2 =>
     Option.bind x0.1[n2]? fun y3 =>
     bnd (x0.1.set n2 (x0.2.1, y3.2)).length x0.2.2 fun n4 =>
     Option.bind (x0.1.set n2 (x0.2.1, y3.2))[n4]? fun y5 =>
     bnd ((x0.1.set n2 (x0.2.1, y3.2)).set n4 (y5.1, IntKind.wrap .i64 (x0.2.1 + (1 : Int)), y5.2.2)).length x0.2.2 fun n6 =>
     Option.bind ((x0.1.set n2 (x0.2.1, y3.2)).set n4 (y5.1, IntKind.wrap .i64 (x0.2.1 + (1 : Int)), y5.2.2))[n6]? fun y7 =>
     bnd (((x0.1.set n2 (x0.2.1, y3.2)).set n4 (y5.1, IntKind.wrap .i64 (x0.2.1 + (1 : Int)), y5.2.2)).set n6 (y7.1, y7.2.1, IntKind.wrap .i64 ((IntKind.wrap .i64 (x0.2.1 + (1 : Int))) + (1 : Int)), y7.2.2.2)).length x0.2.2 fun n8 =>
     Option.bind (((x0.1.set n2 (x0.2.1, y3.2)).set n4 (y5.1, IntKind.wrap .i64 (x0.2.1 + (1 : Int)), y5.2.2)).set n6 (y7.1, y7.2.1, IntKind.wrap .i64 ((IntKind.wrap .i64 (x0.2.1 + (1 : Int))) + (1 : Int)), y7.2.2.2))[n8]? fun y9 =>
     bnd ((((x0.1.set n2 (x0.2.1, y3.2)).set n4 (y5.1, IntKind.wrap .i64 (x0.2.1 + (1 : Int)), y5.2.2)).set n6 (y7.1, y7.2.1, IntKind.wrap .i64 ((IntKind.wrap .i64 (x0.2.1 + (1 : Int))) + (1 : Int)), y7.2.2.2)).set n8 (y9.1, y9.2.1, y9.2.2.1, IntKind.wrap .i64 ((IntKind.wrap .i64 ((IntKind.wrap .i64 (x0.2.1 + (1 : Int))) + (1 : Int))) + (1 : Int)), y9.2.2.2.2)).length x0.2.2 fun n10 =>
     Option.bind ((((x0.1.set n2 (x0.2.1, y3.2)).set n4 (y5.1, IntKind.wrap .i64 (x0.2.1 + (1 : Int)), y5.2.2)).set n6 (y7.1, y7.2.1, IntKind.wrap .i64 ((IntKind.wrap .i64 (x0.2.1 + (1 : Int))) + (1 : Int)), y7.2.2.2)).set n8 (y9.1, y9.2.1, y9.2.2.1, IntKind.wrap .i64 ((IntKind.wrap .i64 ((IntKind.wrap .i64 (x0.2.1 + (1 : Int))) + (1 : Int))) + (1 : Int)), y9.2.2.2.2))[n10]? fun y11 =>
     bnd (((((x0.1.set n2 (x0.2.1, y3.2)).set n4 (y5.1, IntKind.wrap .i64 (x0.2.1 + (1 : Int)), y5.2.2)).set n6 (y7.1, y7.2.1, IntKind.wrap .i64 ((IntKind.wrap .i64 (x0.2.1 + (1 : Int))) + (1 : Int)), y7.2.2.2)).set n8 (y9.1, y9.2.1, y9.2.2.1, IntKind.wrap .i64 ((IntKind.wrap .i64 ((IntKind.wrap .i64 (x0.2.1 + (1 : Int))) + (1 : Int))) + (1 : Int)), y9.2.2.2.2)).set n10 (y11.1, y11.2.1, y11.2.2.1, y11.2.2.2.1, IntKind.wrap .i64 ((IntKind.wrap .i64 ((IntKind.wrap .i64 ((IntKind.wrap .i64 (x0.2.1 + (1 : Int))) + (1 : Int))) + (1 : Int))) + (1 : Int)), y11.2.2.2.2.2)).length x0.2.2 fun n12 =>
     Option.bind (((((x0.1.set n2 (x0.2.1, y3.2)).set n4 (y5.1, IntKind.wrap .i64 (x0.2.1 + (1 : Int)), y5.2.2)).set n6 (y7.1, y7.2.1, IntKind.wrap .i64 ((IntKind.wrap .i64 (x0.2.1 + (1 : Int))) + (1 : Int)), y7.2.2.2)).set n8 (y9.1, y9.2.1, y9.2.2.1, IntKind.wrap .i64 ((IntKind.wrap .i64 ((IntKind.wrap .i64 (x0.2.1 + (1 : Int))) + (1 : Int))) + (1 : Int)), y9.2.2.2.2)).set n10 (y11.1, y11.2.1, y11.2.2.1, y11.2.2.2.1, IntKind.wrap .i64 ((IntKind.wrap .i64 ((IntKind.wrap .i64 ((IntKind.wrap .i64 (x0.2.1 + (1 : Int))) + (1 : Int))) + (1 : Int))) + (1 : Int)), y11.2.2.2.2.2))[n12]? fun y13 =>
     self1 ((((((x0.1.set n2 (x0.2.1, y3.2)).set n4 (y5.1, IntKind.wrap .i64 (x0.2.1 + (1 : Int)), y5.2.2)).set n6 (y7.1, y7.2.1, IntKind.wrap .i64 ((IntKind.wrap .i64 (x0.2.1 + (1 : Int))) + (1 : Int)), y7.2.2.2)).set n8 (y9.1, y9.2.1, y9.2.2.1, IntKind.wrap .i64 ((IntKind.wrap .i64 ((IntKind.wrap .i64 (x0.2.1 + (1 : Int))) + (1 : Int))) + (1 : Int)), y9.2.2.2.2)).set n10 (y11.1, y11.2.1, y11.2.2.1, y11.2.2.2.1, IntKind.wrap .i64 ((IntKind.wrap .i64 ((IntKind.wrap .i64 ((IntKind.wrap .i64 (x0.2.1 + (1 : Int))) + (1 : Int))) + (1 : Int))) + (1 : Int)), y11.2.2.2.2.2)).set n12 (y13.1, y13.2.1, y13.2.2.1, y13.2.2.2.1, y13.2.2.2.2.1, IntKind.wrap .i64 ((IntKind.wrap .i64 ((IntKind.wrap .i64 ((IntKind.wrap .i64 ((IntKind.wrap .i64 (x0.2.1 + (1 : Int))) + (1 : Int))) + (1 : Int))) + (1 : Int))) + (1 : Int))), IntKind.wrap .i64 ((IntKind.wrap .i64 ((IntKind.wrap .i64 ((IntKind.wrap .i64 ((IntKind.wrap .i64 ((IntKind.wrap .i64 (x0.2.1 + (1 : Int))) + (1 : Int))) + (1 : Int))) + (1 : Int))) + (1 : Int))) + (1 : Int)), IntKind.wrap .i64 (x0.2.2 + (1 : Int)))
    else some (x0.1, x0.2.1)) (a0, a1, (0 : Int)) : Option ((List (Int × Int × Int × Int × Int × Int)) × Int)) fun x14 =>
  some (x14.2, x14.1) := by kernel_rfl
/- laws.markHead -/
def c_lmarkHead : TC :=
 (.seq (.rg [⟨false, [], [], .det 2 (.a (.t 0)), [2, 0], (some 2), none⟩,
   o1 4 (.lit [.i .i64] [.int .i64 (0)])])
 (.seq (.rg [o1 5 (.idx .nil),
   o1 6 (.load 2 [] 1 (.t 5) 1 true),
   o1 7 (.copy 1),
   ⟨false, [], [], .call 2 147 [.t 6, .t 7] (.mt 2 [] 1 6 0), [8, 2, 6], (some 8), none⟩,
   o1 1 (.copy 8)])
 (.seq (.rg [o1 9 (.idx .nil),
   o1 10 (.load 2 [] 2 (.t 9) 1 true),
   o1 11 (.copy 1),
   ⟨false, [], [], .call 2 146 [.t 10, .t 11] (.mt 2 [] 2 10 0), [12, 2, 10], (some 12), none⟩,
   o1 1 (.copy 12)])
 (.seq (.rg [o1 13 (.idx .nil),
   o1 14 (.load 2 [] 3 (.t 13) 1 true),
   o1 15 (.copy 1),
   ⟨false, [], [], .call 2 185 [.t 14, .t 15] (.mt 2 [] 3 14 0), [16, 2, 14], (some 16), none⟩,
   o1 1 (.copy 16)])
 (.seq (.rg [o1 17 (.idx .nil),
   o1 18 (.load 2 [] 4 (.t 17) 1 true),
   o1 19 (.copy 1),
   ⟨false, [], [], .call 2 147 [.t 18, .t 19] (.mt 2 [] 4 18 0), [20, 2, 18], (some 20), none⟩,
   o1 1 (.copy 20)])
 (.seq (.rg [o1 21 (.idx .nil),
   o1 22 (.load 2 [] 5 (.t 21) 9 true),
   o1 23 (.copy 1),
   ⟨false, [], [], .call 2 186 [.t 22, .t 23] (.mt 2 [] 5 22 0), [24, 2, 22], (some 24), none⟩,
   o1 1 (.copy 24)])
 (.seq (.rg [o1 25 (.idx .nil),
   o1 26 (.load 2 [] 14 (.t 25) 1 true),
   o1 27 (.copy 1),
   ⟨false, [], [], .call 2 187 [.t 26, .t 27] (.mt 2 [] 14 26 0), [28, 2, 26], (some 28), none⟩,
   o1 1 (.copy 28)])
 (.seq (.rg [o1 29 (.copy 1),
   o1 4 (.copy 29)])
 .ret))))))))
def s_lmarkHead : Sig := ⟨[.mt true [.d, .sl (.own none) [.d], .sl (.own none) [.d, .d], .sl (.own none) [.sl (.own none) [.d]], .sl (.own none) [.d], .d, .d, .d, .d, .d, .d, .d, .sl (.own none) [.d, .d], .d, .sl (.own none) [.d, .d, .d, .d, .d, .d]], .rd false [.d]], (.one false [.d])⟩
noncomputable def E_lmarkHead : TEnv := envOf [(147, p_lmarkIntS), (146, p_lmarkEdgeS), (185, p_lmarkIntSS), (186, p_lmarkTask), (187, p_lmarkSaidS)]
noncomputable def f_lmarkHead (n : Nat) : (Int × List (Int) × List (Int × Int) × List (List (Int)) × List (Int) × Int × Int × Int × Int × Int × Int × Int × List (Int × Int) × Int × List (Int × Int × Int × Int × Int × Int)) × Int → Option ((Int) × Int × List (Int) × List (Int × Int) × List (List (Int)) × List (Int) × Int × Int × Int × Int × Int × Int × Int × List (Int × Int) × Int × List (Int × Int × Int × Int × Int × Int)) := runFn n E_lmarkHead c_lmarkHead [[.i .i64, .sl [.i .i64], .sl [.i .i64, .i .i64], .sl [.sl [.i .i64]], .sl [.i .i64], .i .i64, .i .i64, .i .i64, .i .i64, .i .i64, .i .i64, .i .i64, .sl [.i .i64, .i .i64], .i .i64, .sl [.i .i64, .i .i64, .i .i64, .i .i64, .i .i64, .i .i64]], [.i .i64]] [.i .i64] [.i .i64, .sl [.i .i64], .sl [.i .i64, .i .i64], .sl [.sl [.i .i64]], .sl [.i .i64], .i .i64, .i .i64, .i .i64, .i .i64, .i .i64, .i .i64, .i .i64, .sl [.i .i64, .i .i64], .i .i64, .sl [.i .i64, .i .i64, .i .i64, .i .i64, .i .i64, .i .i64]] [4] (.mt 0 2 0)
noncomputable def g_lmarkHead := f_lmarkHead BIG
noncomputable def p_lmarkHead : TSp := ⟨s_lmarkHead, [[.i .i64, .sl [.i .i64], .sl [.i .i64, .i .i64], .sl [.sl [.i .i64]], .sl [.i .i64], .i .i64, .i .i64, .i .i64, .i .i64, .i .i64, .i .i64, .i .i64, .sl [.i .i64, .i .i64], .i .i64, .sl [.i .i64, .i .i64, .i .i64, .i .i64, .i .i64, .i .i64]], [.i .i64]], [.i .i64], [.i .i64, .sl [.i .i64], .sl [.i .i64, .i .i64], .sl [.sl [.i .i64]], .sl [.i .i64], .i .i64, .i .i64, .i .i64, .i .i64, .i .i64, .i .i64, .i .i64, .sl [.i .i64, .i .i64], .i .i64, .sl [.i .i64, .i .i64, .i .i64, .i .i64, .i .i64, .i .i64]], Ou.j (.mt 0 2 0), g_lmarkHead⟩
theorem k_lmarkHead : chkW PG E_lmarkHead 76 s_lmarkHead (c_lmarkHead.ht 30) (.mt 0 2 0) = some (c_lmarkHead.wc E_lmarkHead, [4]) := by kernel_rfl
theorem ok_lmarkHead : p_lmarkHead.Ok PG 76 := mkOk (env_cons ok_lmarkIntS (env_cons ok_lmarkEdgeS (env_cons ok_lmarkIntSS (env_cons ok_lmarkTask (env_cons ok_lmarkSaidS (env_nil PG)))))) k_lmarkHead (by kernel_rfl)
theorem e_lmarkHead (n : Nat) (a0 : Int × List (Int) × List (Int × Int) × List ((List (Int))) × List (Int) × Int × Int × Int × Int × Int × Int × Int × List (Int × Int) × Int × List (Int × Int × Int × Int × Int × Int)) (a1 : Int) : f_lmarkHead n (a0, a1) =
  Option.bind (g_lmarkIntS (a0.2.1, a1)) fun r0 =>
  Option.bind (g_lmarkEdgeS (a0.2.2.1, r0.1)) fun r1 =>
  Option.bind (g_lmarkIntSS (a0.2.2.2.1, r1.1)) fun r2 =>
  Option.bind (g_lmarkIntS (a0.2.2.2.2.1, r2.1)) fun r3 =>
  Option.bind (g_lmarkTask ((a0.2.2.2.2.2.1, a0.2.2.2.2.2.2.1, a0.2.2.2.2.2.2.2.1, a0.2.2.2.2.2.2.2.2.1, a0.2.2.2.2.2.2.2.2.2.1, a0.2.2.2.2.2.2.2.2.2.2.1, a0.2.2.2.2.2.2.2.2.2.2.2.1, a0.2.2.2.2.2.2.2.2.2.2.2.2.1, a0.2.2.2.2.2.2.2.2.2.2.2.2.2.1), r3.1)) fun r4 =>
  Option.bind (g_lmarkSaidS (a0.2.2.2.2.2.2.2.2.2.2.2.2.2.2, r4.1)) fun r5 =>
  some (r5.1, (a0.1, r0.2, r1.2, r2.2, r3.2, a0.2.2.2.2.2.1, a0.2.2.2.2.2.2.1, a0.2.2.2.2.2.2.2.1, a0.2.2.2.2.2.2.2.2.1, a0.2.2.2.2.2.2.2.2.2.1, a0.2.2.2.2.2.2.2.2.2.2.1, a0.2.2.2.2.2.2.2.2.2.2.2.1, r4.2.2.2.2.2.2.2.2.1, a0.2.2.2.2.2.2.2.2.2.2.2.2.2.1, r5.2)) := by kernel_rfl
/- laws.markAnswer -/
def c_lmarkAnswer : TC :=
 (.seq (.rg [⟨false, [], [], .det 2 (.a (.t 0)), [2, 0], (some 2), none⟩,
   o1 4 (.lit [.i .i64] [.int .i64 (0)])])
 (.seq (.rg [o1 5 (.idx .nil),
   o1 6 (.load 2 [] 2 (.t 5) 1 true),
   o1 7 (.copy 1),
   ⟨false, [], [], .call 2 146 [.t 6, .t 7] (.mt 2 [] 2 6 0), [8, 2, 6], (some 8), none⟩,
   o1 1 (.copy 8)])
 (.seq (.rg [o1 9 (.idx .nil),
   o1 10 (.load 2 [] 3 (.t 9) 1 true),
   o1 11 (.copy 1),
   ⟨false, [], [], .call 2 147 [.t 10, .t 11] (.mt 2 [] 3 10 0), [12, 2, 10], (some 12), none⟩,
   o1 1 (.copy 12)])
 (.seq (.rg [o1 13 (.copy 1),
   o1 4 (.copy 13)])
 .ret))))
def s_lmarkAnswer : Sig := ⟨[.mt true [.d, .d, .sl (.own none) [.d, .d], .sl (.own none) [.d]], .rd false [.d]], (.one false [.d])⟩
noncomputable def E_lmarkAnswer : TEnv := envOf [(146, p_lmarkEdgeS), (147, p_lmarkIntS)]
noncomputable def f_lmarkAnswer (n : Nat) : (Int × Bool × List (Int × Int) × List (Int)) × Int → Option ((Int) × Int × Bool × List (Int × Int) × List (Int)) := runFn n E_lmarkAnswer c_lmarkAnswer [[.i .i64, .b, .sl [.i .i64, .i .i64], .sl [.i .i64]], [.i .i64]] [.i .i64] [.i .i64, .b, .sl [.i .i64, .i .i64], .sl [.i .i64]] [4] (.mt 0 2 0)
noncomputable def g_lmarkAnswer := f_lmarkAnswer BIG
noncomputable def p_lmarkAnswer : TSp := ⟨s_lmarkAnswer, [[.i .i64, .b, .sl [.i .i64, .i .i64], .sl [.i .i64]], [.i .i64]], [.i .i64], [.i .i64, .b, .sl [.i .i64, .i .i64], .sl [.i .i64]], Ou.j (.mt 0 2 0), g_lmarkAnswer⟩
theorem k_lmarkAnswer : chkW PG E_lmarkAnswer 77 s_lmarkAnswer (c_lmarkAnswer.ht 14) (.mt 0 2 0) = some (c_lmarkAnswer.wc E_lmarkAnswer, [4]) := by kernel_rfl
theorem ok_lmarkAnswer : p_lmarkAnswer.Ok PG 77 := mkOk (env_cons ok_lmarkEdgeS (env_cons ok_lmarkIntS (env_nil PG))) k_lmarkAnswer (by kernel_rfl)
theorem e_lmarkAnswer (n : Nat) (a0 : Int × Bool × List (Int × Int) × List (Int)) (a1 : Int) : f_lmarkAnswer n (a0, a1) =
  Option.bind (g_lmarkEdgeS (a0.2.2.1, a1)) fun r0 =>
  Option.bind (g_lmarkIntS (a0.2.2.2, r0.1)) fun r1 =>
  some (r1.1, (a0.1, a0.2.1, r0.2, r1.2)) := by kernel_rfl
/- laws.heldIntS -/
def c_lheldIntS : TC :=
 (.seq (.rg [o1 4 (.lit [.i .i64] [.int .i64 (0)])])
 (.seq (.join [⟨1, [.i .i64], false⟩] 1048562 (some [⟨4, [.i .i64], false⟩]) (.seq (.rg [o1 5 (.lit [.i .i64] [.int .i64 (0)])])
 (.block 0 (.loop [⟨1, [.i .i64], false⟩, ⟨5, [.i .i64], false⟩] 1048562
  (.seq (.seq (.rg [o1 6 (.copy 5),
    o1 7 (.copy 0),
    o1 8 (.len 7),
    o1 9 (.data (.bin .lss) [.t 6, .t 8])])
  (.cond (.t 9)
   .skip
   (.exit 0)))
  (.seq (.block 1 (.seq (.seq (.rg [o1 12 (.copy 0),
    o1 13 (.copy 5),
    o1 14 (.index 12 (.t 13)),
    o1 15 (.load 12 [(0, 1)] 0 (.t 14) 1 false),
    o1 16 (.copy 1),
    o1 17 (.data (.bin .neq) [.t 15, .t 16])])
  (.cond (.t 17)
   (.seq (.rg [o1 4 (.lit [.i .i64] [.int .i64 (-1)])])
   .ret)
   .skip))
  (.rg [o1 18 (.copy 1),
    o1 19 (.data (.bin .add) [.t 18, .c (.int .i64 (1))]),
    o1 1 (.copy 19)])))
  (.rg [o1 10 (.copy 5),
    o1 11 (.data (.bin .add) [.t 10, .c (.int .i64 (1))]),
    o1 5 (.copy 11)])))))))
 (.seq (.rg [o1 20 (.copy 1),
   o1 4 (.copy 20)])
 .ret)))
def s_lheldIntS : Sig := ⟨[.rd false [.sl (.own none) [.d]], .rd false [.d]], (.one false [.d])⟩
noncomputable def E_lheldIntS : TEnv := envOf []
noncomputable def f_lheldIntS (n : Nat) : List (Int) × Int → Option ((Int) × Unit) := runFn n E_lheldIntS c_lheldIntS [[.sl [.i .i64]], [.i .i64]] [.i .i64] [] [4] .no
noncomputable def g_lheldIntS := f_lheldIntS BIG
noncomputable def p_lheldIntS : TSp := ⟨s_lheldIntS, [[.sl [.i .i64]], [.i .i64]], [.i .i64], [], Ou.j .no, g_lheldIntS⟩
theorem k_lheldIntS : chkW PG E_lheldIntS 149 s_lheldIntS (c_lheldIntS.ht 21) .no = some (c_lheldIntS.wc E_lheldIntS, [4]) := by kernel_rfl
theorem ok_lheldIntS : p_lheldIntS.Ok PG 149 := mkOk (env_nil PG) k_lheldIntS (by kernel_rfl)
theorem e_lheldIntS (n : Nat) (a0 : List (Int)) (a1 : Int) : f_lheldIntS n (a0, a1) =
  Option.bind (loopT n (X := Int × Int) (B := (Int) ⊕ (Int)) (fun self1 x0 =>
    bif decide (x0.2 < (a0.length : Int)) then
     bnd a0.length x0.2 fun n2 =>
     Option.bind a0[n2]? fun y3 =>
     bif !decide (y3 = x0.1) then
      some (Sum.inr (-1 : Int))
     else self1 (IntKind.wrap .i64 (x0.1 + (1 : Int)), IntKind.wrap .i64 (x0.2 + (1 : Int)))
    else some (Sum.inl x0.1)) (a1, (0 : Int)) : Option ((Int) ⊕ (Int))) fun y => match y with
  | .inl x4 =>
   some (x4, ())
  | .inr x4 =>
   some (x4, ()) := by kernel_rfl
/- laws.heldEdgeS -/
def c_lheldEdgeS : TC :=
 (.seq (.rg [o1 4 (.lit [.i .i64] [.int .i64 (0)])])
 (.seq (.join [⟨1, [.i .i64], false⟩] 1073741810 (some [⟨4, [.i .i64], false⟩]) (.seq (.rg [o1 5 (.lit [.i .i64] [.int .i64 (0)])])
 (.block 0 (.loop [⟨1, [.i .i64], false⟩, ⟨5, [.i .i64], false⟩] 1073741810
  (.seq (.seq (.rg [o1 6 (.copy 5),
    o1 7 (.copy 0),
    o1 8 (.len 7),
    o1 9 (.data (.bin .lss) [.t 6, .t 8])])
  (.cond (.t 9)
   .skip
   (.exit 0)))
  (.seq (.block 1 (.seq (.seq (.rg [o1 12 (.copy 0),
    o1 13 (.copy 5),
    o1 14 (.index 12 (.t 13)),
    o1 15 (.idx (.t 14)),
    o1 16 (.load 12 [(0, 2)] 0 (.t 15) 1 false),
    o1 17 (.copy 1),
    o1 18 (.data (.bin .neq) [.t 16, .t 17])])
  (.cond (.t 18)
   (.seq (.rg [o1 4 (.lit [.i .i64] [.int .i64 (-1)])])
   .ret)
   .skip))
  (.seq (.rg [o1 19 (.copy 1),
    o1 20 (.data (.bin .add) [.t 19, .c (.int .i64 (1))]),
    o1 1 (.copy 20)])
  (.seq (.seq (.rg [o1 21 (.copy 0),
    o1 22 (.copy 5),
    o1 23 (.index 21 (.t 22)),
    o1 24 (.idx (.t 23)),
    o1 25 (.load 21 [(0, 2)] 1 (.t 24) 1 false),
    o1 26 (.copy 1),
    o1 27 (.data (.bin .neq) [.t 25, .t 26])])
  (.cond (.t 27)
   (.seq (.rg [o1 4 (.lit [.i .i64] [.int .i64 (-1)])])
   .ret)
   .skip))
  (.rg [o1 28 (.copy 1),
    o1 29 (.data (.bin .add) [.t 28, .c (.int .i64 (1))]),
    o1 1 (.copy 29)])))))
  (.rg [o1 10 (.copy 5),
    o1 11 (.data (.bin .add) [.t 10, .c (.int .i64 (1))]),
    o1 5 (.copy 11)])))))))
 (.seq (.rg [o1 30 (.copy 1),
   o1 4 (.copy 30)])
 .ret)))
def s_lheldEdgeS : Sig := ⟨[.rd false [.sl (.own none) [.d, .d]], .rd false [.d]], (.one false [.d])⟩
noncomputable def E_lheldEdgeS : TEnv := envOf []
noncomputable def f_lheldEdgeS (n : Nat) : (List (Int × Int)) × Int → Option ((Int) × Unit) := runFn n E_lheldEdgeS c_lheldEdgeS [[.sl [.i .i64, .i .i64]], [.i .i64]] [.i .i64] [] [4] .no
noncomputable def g_lheldEdgeS := f_lheldEdgeS BIG
noncomputable def p_lheldEdgeS : TSp := ⟨s_lheldEdgeS, [[.sl [.i .i64, .i .i64]], [.i .i64]], [.i .i64], [], Ou.j .no, g_lheldEdgeS⟩
theorem k_lheldEdgeS : chkW PG E_lheldEdgeS 148 s_lheldEdgeS (c_lheldEdgeS.ht 31) .no = some (c_lheldEdgeS.wc E_lheldEdgeS, [4]) := by kernel_rfl
theorem ok_lheldEdgeS : p_lheldEdgeS.Ok PG 148 := mkOk (env_nil PG) k_lheldEdgeS (by kernel_rfl)
theorem e_lheldEdgeS (n : Nat) (a0 : List (Int × Int)) (a1 : Int) : f_lheldEdgeS n (a0, a1) =
  Option.bind (loopT n (X := Int × Int) (B := (Int) ⊕ (Int)) (fun self1 x0 =>
    bif decide (x0.2 < (a0.length : Int)) then
     bnd a0.length x0.2 fun n2 =>
     Option.bind a0[n2]? fun y3 =>
     bif !decide (y3.1 = x0.1) then
      some (Sum.inr (-1 : Int))
     else bnd a0.length x0.2 fun n4 =>
     Option.bind a0[n4]? fun y5 =>
     bif !decide (y5.2 = (IntKind.wrap .i64 (x0.1 + (1 : Int)))) then
      some (Sum.inr (-1 : Int))
     else self1 (IntKind.wrap .i64 ((IntKind.wrap .i64 (x0.1 + (1 : Int))) + (1 : Int)), IntKind.wrap .i64 (x0.2 + (1 : Int)))
    else some (Sum.inl x0.1)) (a1, (0 : Int)) : Option ((Int) ⊕ (Int))) fun y => match y with
  | .inl x6 =>
   some (x6, ())
  | .inr x6 =>
   some (x6, ()) := by kernel_rfl
/- laws.heldIntSS -/
def c_lheldIntSS : TC :=
 (.seq (.rg [o1 4 (.lit [.i .i64] [.int .i64 (0)])])
 (.seq (.join [⟨1, [.i .i64], false⟩] 1048562 (some [⟨4, [.i .i64], false⟩]) (.seq (.rg [o1 5 (.lit [.i .i64] [.int .i64 (0)])])
 (.block 0 (.loop [⟨1, [.i .i64], false⟩, ⟨5, [.i .i64], false⟩] 1048562
  (.seq (.seq (.rg [o1 6 (.copy 5),
    o1 7 (.copy 0),
    o1 8 (.len 7),
    o1 9 (.data (.bin .lss) [.t 6, .t 8])])
  (.cond (.t 9)
   .skip
   (.exit 0)))
  (.seq (.block 1 (.seq (.rg [o1 12 (.copy 0),
    o1 13 (.copy 5),
    o1 14 (.index 12 (.t 13)),
    o1 15 (.load 12 [(0, 1)] 0 (.t 14) 1 false),
    o1 16 (.copy 1),
    o3 17 149 [.t 15, .t 16],
    o1 1 (.copy 17)])
  (.seq (.rg [o1 18 (.copy 1),
    o1 19 (.data (.bin .lss) [.t 18, .c (.int .i64 (0))])])
  (.cond (.t 19)
   (.seq (.rg [o1 4 (.lit [.i .i64] [.int .i64 (-1)])])
   .ret)
   .skip))))
  (.rg [o1 10 (.copy 5),
    o1 11 (.data (.bin .add) [.t 10, .c (.int .i64 (1))]),
    o1 5 (.copy 11)])))))))
 (.seq (.rg [o1 20 (.copy 1),
   o1 4 (.copy 20)])
 .ret)))
def s_lheldIntSS : Sig := ⟨[.rd false [.sl (.own none) [.sl (.own none) [.d]]], .rd false [.d]], (.one false [.d])⟩
noncomputable def E_lheldIntSS : TEnv := envOf [(149, p_lheldIntS)]
noncomputable def f_lheldIntSS (n : Nat) : List (List (Int)) × Int → Option ((Int) × Unit) := runFn n E_lheldIntSS c_lheldIntSS [[.sl [.sl [.i .i64]]], [.i .i64]] [.i .i64] [] [4] .no
noncomputable def g_lheldIntSS := f_lheldIntSS BIG
noncomputable def p_lheldIntSS : TSp := ⟨s_lheldIntSS, [[.sl [.sl [.i .i64]]], [.i .i64]], [.i .i64], [], Ou.j .no, g_lheldIntSS⟩
theorem k_lheldIntSS : chkW PG E_lheldIntSS 188 s_lheldIntSS (c_lheldIntSS.ht 21) .no = some (c_lheldIntSS.wc E_lheldIntSS, [4]) := by kernel_rfl
theorem ok_lheldIntSS : p_lheldIntSS.Ok PG 188 := mkOk (env_cons ok_lheldIntS (env_nil PG)) k_lheldIntSS (by kernel_rfl)
theorem e_lheldIntSS (n : Nat) (a0 : List ((List (Int)))) (a1 : Int) : f_lheldIntSS n (a0, a1) =
  Option.bind (loopT n (X := Int × Int) (B := (Int) ⊕ (Int)) (fun self1 x0 =>
    bif decide (x0.2 < (a0.length : Int)) then
     bnd a0.length x0.2 fun n2 =>
     Option.bind a0[n2]? fun y3 =>
     Option.bind (g_lheldIntS (y3, x0.1)) fun r4 =>
     bif decide (r4.1 < (0 : Int)) then
      some (Sum.inr (-1 : Int))
     else self1 (r4.1, IntKind.wrap .i64 (x0.2 + (1 : Int)))
    else some (Sum.inl x0.1)) (a1, (0 : Int)) : Option ((Int) ⊕ (Int))) fun y => match y with
  | .inl x5 =>
   some (x5, ())
  | .inr x5 =>
   some (x5, ()) := by kernel_rfl
/- laws.heldOrder -/
def c_lheldOrder : TC :=
 (.seq (.rg [o1 2 (.a (.t 0)),
   o1 4 (.lit [.i .i64] [.int .i64 (0)])])
 (.seq (.rg [o1 5 (.idx .nil),
   o1 6 (.load 2 [] 2 (.t 5) 1 false),
   o1 7 (.copy 1),
   o3 8 148 [.t 6, .t 7],
   o1 1 (.copy 8)])
 (.seq (.seq (.rg [o1 9 (.copy 1),
   o1 10 (.data (.bin .lss) [.t 9, .c (.int .i64 (0))])])
 (.cond (.t 10)
  (.seq (.rg [o1 4 (.lit [.i .i64] [.int .i64 (-1)])])
  .ret)
  .skip))
 (.seq (.rg [o1 11 (.copy 1),
   o1 4 (.copy 11)])
 .ret))))
def s_lheldOrder : Sig := ⟨[.rd true [.d, .d, .sl (.own none) [.d, .d], .d], .rd false [.d]], (.one false [.d])⟩
noncomputable def E_lheldOrder : TEnv := envOf [(148, p_lheldEdgeS)]
noncomputable def f_lheldOrder (n : Nat) : (Int × Int × List (Int × Int) × Int) × Int → Option ((Int) × Unit) := runFn n E_lheldOrder c_lheldOrder [[.i .i64, .i .i64, .sl [.i .i64, .i .i64], .i .i64], [.i .i64]] [.i .i64] [] [4] .no
noncomputable def g_lheldOrder := f_lheldOrder BIG
noncomputable def p_lheldOrder : TSp := ⟨s_lheldOrder, [[.i .i64, .i .i64, .sl [.i .i64, .i .i64], .i .i64], [.i .i64]], [.i .i64], [], Ou.j .no, g_lheldOrder⟩
theorem k_lheldOrder : chkW PG E_lheldOrder 291 s_lheldOrder (c_lheldOrder.ht 12) .no = some (c_lheldOrder.wc E_lheldOrder, [4]) := by kernel_rfl
theorem ok_lheldOrder : p_lheldOrder.Ok PG 291 := mkOk (env_cons ok_lheldEdgeS (env_nil PG)) k_lheldOrder (by kernel_rfl)
theorem e_lheldOrder (n : Nat) (a0 : Int × Int × List (Int × Int) × Int) (a1 : Int) : f_lheldOrder n (a0, a1) =
  Option.bind (g_lheldEdgeS (a0.2.2.1, a1)) fun r0 =>
  bif decide (r0.1 < (0 : Int)) then
   some ((-1 : Int), ())
  else some (r0.1, ()) := by kernel_rfl
/- laws.heldTask -/
def c_lheldTask : TC :=
 (.seq (.rg [o1 2 (.a (.t 0)),
   o1 4 (.lit [.i .i64] [.int .i64 (0)])])
 (.seq (.rg [o1 5 (.idx .nil),
   o1 6 (.load 2 [] 5 (.t 5) 4 false),
   o1 7 (.copy 1),
   o3 8 291 [.t 6, .t 7],
   o1 1 (.copy 8)])
 (.seq (.seq (.rg [o1 9 (.copy 1),
   o1 10 (.data (.bin .lss) [.t 9, .c (.int .i64 (0))])])
 (.cond (.t 10)
  (.seq (.rg [o1 4 (.lit [.i .i64] [.int .i64 (-1)])])
  .ret)
  .skip))
 (.seq (.rg [o1 11 (.copy 1),
   o1 4 (.copy 11)])
 .ret))))
def s_lheldTask : Sig := ⟨[.rd true [.d, .d, .d, .d, .d, .d, .d, .sl (.own none) [.d, .d], .d], .rd false [.d]], (.one false [.d])⟩
noncomputable def E_lheldTask : TEnv := envOf [(291, p_lheldOrder)]
noncomputable def f_lheldTask (n : Nat) : (Int × Int × Int × Int × Int × Int × Int × List (Int × Int) × Int) × Int → Option ((Int) × Unit) := runFn n E_lheldTask c_lheldTask [[.i .i64, .i .i64, .i .i64, .i .i64, .i .i64, .i .i64, .i .i64, .sl [.i .i64, .i .i64], .i .i64], [.i .i64]] [.i .i64] [] [4] .no
noncomputable def g_lheldTask := f_lheldTask BIG
noncomputable def p_lheldTask : TSp := ⟨s_lheldTask, [[.i .i64, .i .i64, .i .i64, .i .i64, .i .i64, .i .i64, .i .i64, .sl [.i .i64, .i .i64], .i .i64], [.i .i64]], [.i .i64], [], Ou.j .no, g_lheldTask⟩
theorem k_lheldTask : chkW PG E_lheldTask 189 s_lheldTask (c_lheldTask.ht 12) .no = some (c_lheldTask.wc E_lheldTask, [4]) := by kernel_rfl
theorem ok_lheldTask : p_lheldTask.Ok PG 189 := mkOk (env_cons ok_lheldOrder (env_nil PG)) k_lheldTask (by kernel_rfl)
theorem e_lheldTask (n : Nat) (a0 : Int × Int × Int × Int × Int × Int × Int × List (Int × Int) × Int) (a1 : Int) : f_lheldTask n (a0, a1) =
  Option.bind (g_lheldOrder (a0.2.2.2.2.2, a1)) fun r0 =>
  bif decide (r0.1 < (0 : Int)) then
   some ((-1 : Int), ())
  else some (r0.1, ()) := by kernel_rfl
/- laws.heldSaidS -/
def c_lheldSaidS : TC :=
 (.seq (.rg [o1 4 (.lit [.i .i64] [.int .i64 (0)])])
 (.seq (.join [⟨1, [.i .i64], false⟩] 1180591620717411303410 (some [⟨4, [.i .i64], false⟩]) (.seq (.rg [o1 5 (.lit [.i .i64] [.int .i64 (0)])])
 (.block 0 (.loop [⟨1, [.i .i64], false⟩, ⟨5, [.i .i64], false⟩] 1180591620717411303410
  (.seq (.seq (.rg [o1 6 (.copy 5),
    o1 7 (.copy 0),
    o1 8 (.len 7),
    o1 9 (.data (.bin .lss) [.t 6, .t 8])])
  (.cond (.t 9)
   .skip
   (.exit 0)))
  (.seq (.block 1 (.seq (.seq (.rg [o1 12 (.copy 0),
    o1 13 (.copy 5),
    o1 14 (.index 12 (.t 13)),
    o1 15 (.idx (.t 14)),
    o1 16 (.load 12 [(0, 6)] 0 (.t 15) 1 false),
    o1 17 (.copy 1),
    o1 18 (.data (.bin .neq) [.t 16, .t 17])])
  (.cond (.t 18)
   (.seq (.rg [o1 4 (.lit [.i .i64] [.int .i64 (-1)])])
   .ret)
   .skip))
  (.seq (.rg [o1 19 (.copy 1),
    o1 20 (.data (.bin .add) [.t 19, .c (.int .i64 (1))]),
    o1 1 (.copy 20)])
  (.seq (.seq (.rg [o1 21 (.copy 0),
    o1 22 (.copy 5),
    o1 23 (.index 21 (.t 22)),
    o1 24 (.idx (.t 23)),
    o1 25 (.idx (.t 24)),
    o1 26 (.load 21 [(0, 6)] 1 (.t 25) 1 false),
    o1 27 (.copy 1),
    o1 28 (.data (.bin .neq) [.t 26, .t 27])])
  (.cond (.t 28)
   (.seq (.rg [o1 4 (.lit [.i .i64] [.int .i64 (-1)])])
   .ret)
   .skip))
  (.seq (.rg [o1 29 (.copy 1),
    o1 30 (.data (.bin .add) [.t 29, .c (.int .i64 (1))]),
    o1 1 (.copy 30)])
  (.seq (.seq (.rg [o1 31 (.copy 0),
    o1 32 (.copy 5),
    o1 33 (.index 31 (.t 32)),
    o1 34 (.idx (.t 33)),
    o1 35 (.idx (.t 34)),
    o1 36 (.load 31 [(0, 6)] 2 (.t 35) 1 false),
    o1 37 (.copy 1),
    o1 38 (.data (.bin .neq) [.t 36, .t 37])])
  (.cond (.t 38)
   (.seq (.rg [o1 4 (.lit [.i .i64] [.int .i64 (-1)])])
   .ret)
   .skip))
  (.seq (.rg [o1 39 (.copy 1),
    o1 40 (.data (.bin .add) [.t 39, .c (.int .i64 (1))]),
    o1 1 (.copy 40)])
  (.seq (.seq (.rg [o1 41 (.copy 0),
    o1 42 (.copy 5),
    o1 43 (.index 41 (.t 42)),
    o1 44 (.idx (.t 43)),
    o1 45 (.idx (.t 44)),
    o1 46 (.load 41 [(0, 6)] 3 (.t 45) 1 false),
    o1 47 (.copy 1),
    o1 48 (.data (.bin .neq) [.t 46, .t 47])])
  (.cond (.t 48)
   (.seq (.rg [o1 4 (.lit [.i .i64] [.int .i64 (-1)])])
   .ret)
   .skip))
  (.seq (.rg [o1 49 (.copy 1),
    o1 50 (.data (.bin .add) [.t 49, .c (.int .i64 (1))]),
    o1 1 (.copy 50)])
  (.seq (.seq (.rg [o1 51 (.copy 0),
    o1 52 (.copy 5),
    o1 53 (.index 51 (.t 52)),
    o1 54 (.idx (.t 53)),
    o1 55 (.idx (.t 54)),
    o1 56 (.load 51 [(0, 6)] 4 (.t 55) 1 false),
    o1 57 (.copy 1),
    o1 58 (.data (.bin .neq) [.t 56, .t 57])])
  (.cond (.t 58)
   (.seq (.rg [o1 4 (.lit [.i .i64] [.int .i64 (-1)])])
   .ret)
   .skip))
  (.seq (.rg [o1 59 (.copy 1),
    o1 60 (.data (.bin .add) [.t 59, .c (.int .i64 (1))]),
    o1 1 (.copy 60)])
  (.seq (.seq (.rg [o1 61 (.copy 0),
    o1 62 (.copy 5),
    o1 63 (.index 61 (.t 62)),
    o1 64 (.idx (.t 63)),
    o1 65 (.load 61 [(0, 6)] 5 (.t 64) 1 false),
    o1 66 (.copy 1),
    o1 67 (.data (.bin .neq) [.t 65, .t 66])])
  (.cond (.t 67)
   (.seq (.rg [o1 4 (.lit [.i .i64] [.int .i64 (-1)])])
   .ret)
   .skip))
  (.rg [o1 68 (.copy 1),
    o1 69 (.data (.bin .add) [.t 68, .c (.int .i64 (1))]),
    o1 1 (.copy 69)])))))))))))))
  (.rg [o1 10 (.copy 5),
    o1 11 (.data (.bin .add) [.t 10, .c (.int .i64 (1))]),
    o1 5 (.copy 11)])))))))
 (.seq (.rg [o1 70 (.copy 1),
   o1 4 (.copy 70)])
 .ret)))
def s_lheldSaidS : Sig := ⟨[.rd false [.sl (.own none) [.d, .d, .d, .d, .d, .d]], .rd false [.d]], (.one false [.d])⟩
noncomputable def E_lheldSaidS : TEnv := envOf []
noncomputable def f_lheldSaidS (n : Nat) : (List (Int × Int × Int × Int × Int × Int)) × Int → Option ((Int) × Unit) := runFn n E_lheldSaidS c_lheldSaidS [[.sl [.i .i64, .i .i64, .i .i64, .i .i64, .i .i64, .i .i64]], [.i .i64]] [.i .i64] [] [4] .no
noncomputable def g_lheldSaidS := f_lheldSaidS BIG
noncomputable def p_lheldSaidS : TSp := ⟨s_lheldSaidS, [[.sl [.i .i64, .i .i64, .i .i64, .i .i64, .i .i64, .i .i64]], [.i .i64]], [.i .i64], [], Ou.j .no, g_lheldSaidS⟩
theorem k_lheldSaidS : chkW PG E_lheldSaidS 190 s_lheldSaidS (c_lheldSaidS.ht 71) .no = some (c_lheldSaidS.wc E_lheldSaidS, [4]) := by kernel_rfl
theorem ok_lheldSaidS : p_lheldSaidS.Ok PG 190 := mkOk (env_nil PG) k_lheldSaidS (by kernel_rfl)
theorem e_lheldSaidS (n : Nat) (a0 : List (Int × Int × Int × Int × Int × Int)) (a1 : Int) : f_lheldSaidS n (a0, a1) =
  Option.bind (loopT n (X := Int × Int) (B := (Int) ⊕ (Int)) (fun self1 x0 =>
    bif decide (x0.2 < (a0.length : Int)) then
     bnd a0.length x0.2 fun n2 =>
     Option.bind a0[n2]? fun y3 =>
     bif !decide (y3.1 = x0.1) then
      some (Sum.inr (-1 : Int))
     else bnd a0.length x0.2 fun n4 =>
     Option.bind a0[n4]? fun y5 =>
     bif !decide (y5.2.1 = (IntKind.wrap .i64 (x0.1 + (1 : Int)))) then
      some (Sum.inr (-1 : Int))
     else bnd a0.length x0.2 fun n6 =>
     Option.bind a0[n6]? fun y7 =>
     bif !decide (y7.2.2.1 = (IntKind.wrap .i64 ((IntKind.wrap .i64 (x0.1 + (1 : Int))) + (1 : Int)))) then
      some (Sum.inr (-1 : Int))
     else bnd a0.length x0.2 fun n8 =>
     Option.bind a0[n8]? fun y9 =>
     bif !decide (y9.2.2.2.1 = (IntKind.wrap .i64 ((IntKind.wrap .i64 ((IntKind.wrap .i64 (x0.1 + (1 : Int))) + (1 : Int))) + (1 : Int)))) then
      some (Sum.inr (-1 : Int))
     else bnd a0.length x0.2 fun n10 =>
     Option.bind a0[n10]? fun y11 =>
     bif !decide (y11.2.2.2.2.1 = (IntKind.wrap .i64 ((IntKind.wrap .i64 ((IntKind.wrap .i64 ((IntKind.wrap .i64 (x0.1 + (1 : Int))) + (1 : Int))) + (1 : Int))) + (1 : Int)))) then
      some (Sum.inr (-1 : Int))
     else bnd a0.length x0.2 fun n12 =>
     Option.bind a0[n12]? fun y13 =>
     bif !decide (y13.2.2.2.2.2 = (IntKind.wrap .i64 ((IntKind.wrap .i64 ((IntKind.wrap .i64 ((IntKind.wrap .i64 ((IntKind.wrap .i64 (x0.1 + (1 : Int))) + (1 : Int))) + (1 : Int))) + (1 : Int))) + (1 : Int)))) then
      some (Sum.inr (-1 : Int))
     else self1 (IntKind.wrap .i64 ((IntKind.wrap .i64 ((IntKind.wrap .i64 ((IntKind.wrap .i64 ((IntKind.wrap .i64 ((IntKind.wrap .i64 (x0.1 + (1 : Int))) + (1 : Int))) + (1 : Int))) + (1 : Int))) + (1 : Int))) + (1 : Int)), IntKind.wrap .i64 (x0.2 + (1 : Int)))
    else some (Sum.inl x0.1)) (a1, (0 : Int)) : Option ((Int) ⊕ (Int))) fun y => match y with
  | .inl x14 =>
   some (x14, ())
  | .inr x14 =>
   some (x14, ()) := by kernel_rfl
/- laws.heldHead -/
def c_lheldHead : TC :=
 (.seq (.rg [o1 2 (.a (.t 0)),
   o1 4 (.lit [.i .i64] [.int .i64 (0)])])
 (.seq (.rg [o1 5 (.idx .nil),
   o1 6 (.load 2 [] 1 (.t 5) 1 false),
   o1 7 (.copy 1),
   o3 8 149 [.t 6, .t 7],
   o1 1 (.copy 8)])
 (.seq (.seq (.rg [o1 9 (.copy 1),
   o1 10 (.data (.bin .lss) [.t 9, .c (.int .i64 (0))])])
 (.cond (.t 10)
  (.seq (.rg [o1 4 (.lit [.i .i64] [.int .i64 (-1)])])
  .ret)
  .skip))
 (.seq (.rg [o1 11 (.idx .nil),
   o1 12 (.load 2 [] 2 (.t 11) 1 false),
   o1 13 (.copy 1),
   o3 14 148 [.t 12, .t 13],
   o1 1 (.copy 14)])
 (.seq (.seq (.rg [o1 15 (.copy 1),
   o1 16 (.data (.bin .lss) [.t 15, .c (.int .i64 (0))])])
 (.cond (.t 16)
  (.seq (.rg [o1 4 (.lit [.i .i64] [.int .i64 (-1)])])
  .ret)
  .skip))
 (.seq (.rg [o1 17 (.idx .nil),
   o1 18 (.load 2 [] 3 (.t 17) 1 false),
   o1 19 (.copy 1),
   o3 20 188 [.t 18, .t 19],
   o1 1 (.copy 20)])
 (.seq (.seq (.rg [o1 21 (.copy 1),
   o1 22 (.data (.bin .lss) [.t 21, .c (.int .i64 (0))])])
 (.cond (.t 22)
  (.seq (.rg [o1 4 (.lit [.i .i64] [.int .i64 (-1)])])
  .ret)
  .skip))
 (.seq (.rg [o1 23 (.idx .nil),
   o1 24 (.load 2 [] 4 (.t 23) 1 false),
   o1 25 (.copy 1),
   o3 26 149 [.t 24, .t 25],
   o1 1 (.copy 26)])
 (.seq (.seq (.rg [o1 27 (.copy 1),
   o1 28 (.data (.bin .lss) [.t 27, .c (.int .i64 (0))])])
 (.cond (.t 28)
  (.seq (.rg [o1 4 (.lit [.i .i64] [.int .i64 (-1)])])
  .ret)
  .skip))
 (.seq (.rg [o1 29 (.idx .nil),
   o1 30 (.load 2 [] 5 (.t 29) 9 false),
   o1 31 (.copy 1),
   o3 32 189 [.t 30, .t 31],
   o1 1 (.copy 32)])
 (.seq (.seq (.rg [o1 33 (.copy 1),
   o1 34 (.data (.bin .lss) [.t 33, .c (.int .i64 (0))])])
 (.cond (.t 34)
  (.seq (.rg [o1 4 (.lit [.i .i64] [.int .i64 (-1)])])
  .ret)
  .skip))
 (.seq (.rg [o1 35 (.idx .nil),
   o1 36 (.load 2 [] 14 (.t 35) 1 false),
   o1 37 (.copy 1),
   o3 38 190 [.t 36, .t 37],
   o1 1 (.copy 38)])
 (.seq (.seq (.rg [o1 39 (.copy 1),
   o1 40 (.data (.bin .lss) [.t 39, .c (.int .i64 (0))])])
 (.cond (.t 40)
  (.seq (.rg [o1 4 (.lit [.i .i64] [.int .i64 (-1)])])
  .ret)
  .skip))
 (.seq (.rg [o1 41 (.copy 1),
   o1 4 (.copy 41)])
 .ret))))))))))))))
def s_lheldHead : Sig := ⟨[.rd true [.d, .sl (.own none) [.d], .sl (.own none) [.d, .d], .sl (.own none) [.sl (.own none) [.d]], .sl (.own none) [.d], .d, .d, .d, .d, .d, .d, .d, .sl (.own none) [.d, .d], .d, .sl (.own none) [.d, .d, .d, .d, .d, .d]], .rd false [.d]], (.one false [.d])⟩
noncomputable def E_lheldHead : TEnv := envOf [(149, p_lheldIntS), (148, p_lheldEdgeS), (188, p_lheldIntSS), (189, p_lheldTask), (190, p_lheldSaidS)]
noncomputable def f_lheldHead (n : Nat) : (Int × List (Int) × List (Int × Int) × List (List (Int)) × List (Int) × Int × Int × Int × Int × Int × Int × Int × List (Int × Int) × Int × List (Int × Int × Int × Int × Int × Int)) × Int → Option ((Int) × Unit) := runFn n E_lheldHead c_lheldHead [[.i .i64, .sl [.i .i64], .sl [.i .i64, .i .i64], .sl [.sl [.i .i64]], .sl [.i .i64], .i .i64, .i .i64, .i .i64, .i .i64, .i .i64, .i .i64, .i .i64, .sl [.i .i64, .i .i64], .i .i64, .sl [.i .i64, .i .i64, .i .i64, .i .i64, .i .i64, .i .i64]], [.i .i64]] [.i .i64] [] [4] .no
noncomputable def g_lheldHead := f_lheldHead BIG
noncomputable def p_lheldHead : TSp := ⟨s_lheldHead, [[.i .i64, .sl [.i .i64], .sl [.i .i64, .i .i64], .sl [.sl [.i .i64]], .sl [.i .i64], .i .i64, .i .i64, .i .i64, .i .i64, .i .i64, .i .i64, .i .i64, .sl [.i .i64, .i .i64], .i .i64, .sl [.i .i64, .i .i64, .i .i64, .i .i64, .i .i64, .i .i64]], [.i .i64]], [.i .i64], [], Ou.j .no, g_lheldHead⟩
theorem k_lheldHead : chkW PG E_lheldHead 78 s_lheldHead (c_lheldHead.ht 42) .no = some (c_lheldHead.wc E_lheldHead, [4]) := by kernel_rfl
theorem ok_lheldHead : p_lheldHead.Ok PG 78 := mkOk (env_cons ok_lheldIntS (env_cons ok_lheldEdgeS (env_cons ok_lheldIntSS (env_cons ok_lheldTask (env_cons ok_lheldSaidS (env_nil PG)))))) k_lheldHead (by kernel_rfl)
theorem e_lheldHead (n : Nat) (a0 : Int × List (Int) × List (Int × Int) × List ((List (Int))) × List (Int) × Int × Int × Int × Int × Int × Int × Int × List (Int × Int) × Int × List (Int × Int × Int × Int × Int × Int)) (a1 : Int) : f_lheldHead n (a0, a1) =
  Option.bind (g_lheldIntS (a0.2.1, a1)) fun r0 =>
  bif decide (r0.1 < (0 : Int)) then
   some ((-1 : Int), ())
  else Option.bind (g_lheldEdgeS (a0.2.2.1, r0.1)) fun r1 =>
  bif decide (r1.1 < (0 : Int)) then
   some ((-1 : Int), ())
  else Option.bind (g_lheldIntSS (a0.2.2.2.1, r1.1)) fun r2 =>
  bif decide (r2.1 < (0 : Int)) then
   some ((-1 : Int), ())
  else Option.bind (g_lheldIntS (a0.2.2.2.2.1, r2.1)) fun r3 =>
  bif decide (r3.1 < (0 : Int)) then
   some ((-1 : Int), ())
  else Option.bind (g_lheldTask ((a0.2.2.2.2.2.1, a0.2.2.2.2.2.2.1, a0.2.2.2.2.2.2.2.1, a0.2.2.2.2.2.2.2.2.1, a0.2.2.2.2.2.2.2.2.2.1, a0.2.2.2.2.2.2.2.2.2.2.1, a0.2.2.2.2.2.2.2.2.2.2.2.1, a0.2.2.2.2.2.2.2.2.2.2.2.2.1, a0.2.2.2.2.2.2.2.2.2.2.2.2.2.1), r3.1)) fun r4 =>
  bif decide (r4.1 < (0 : Int)) then
   some ((-1 : Int), ())
  else Option.bind (g_lheldSaidS (a0.2.2.2.2.2.2.2.2.2.2.2.2.2.2, r4.1)) fun r5 =>
  bif decide (r5.1 < (0 : Int)) then
   some ((-1 : Int), ())
  else some (r5.1, ()) := by kernel_rfl
/- laws.FnExactHear -/
def c_lFnExactHear : TC :=
 (.seq (.rg [o1 3 (.a (.t 0)),
   o1 5 (.a (.t 2)),
   o1 6 (.lit [.b] [.bool false])])
 (.seq (.rg [o1 7 (.lit [.i .i64] [.int .i64 (1048576)])])
 (.seq (.rg [o1 19 (.load 3 [] 0 .nil 15 false),
   o1 20 (.copy 7),
   o3 21 68 [.t 19, .t 20],
   o1 7 (.copy 21)])
 (.seq (.seq (.rg [o1 22 (.copy 7),
   o1 23 (.data (.bin .lss) [.t 22, .c (.int .i64 (0))])])
 (.cond (.t 23)
  (.seq (.rg [o1 6 (.lit [.b] [.bool true])])
  .ret)
  .skip))
 (.seq (.rg [o1 24 (.load 5 [] 0 .nil 4 false),
   o1 25 (.copy 7),
   o3 26 69 [.t 24, .t 25],
   o1 7 (.copy 26)])
 (.seq (.seq (.rg [o1 27 (.copy 7),
   o1 28 (.data (.bin .lss) [.t 27, .c (.int .i64 (0))])])
 (.cond (.t 28)
  (.seq (.rg [o1 6 (.lit [.b] [.bool true])])
  .ret)
  .skip))
 (.seq (.rg [⟨false, [], [1000000001], .det 1 (.load 3 [] 0 .nil 15 false), [30], (some 30), none⟩,
   ⟨false, [], [1000000001], .call 1 71 [.t 30] .no, [31], (some 31), none⟩,
   o1 32 (.copy 1),
   ⟨false, [], [1000000001], .det 1 (.load 5 [] 0 .nil 4 false), [33], (some 33), none⟩,
   ⟨false, [], [1000000001], .call 1 72 [.t 33] .no, [34], (some 34), none⟩,
   ⟨false, [], [1000000001], .call 1 70 [.t 31, .t 32, .t 34] .no, [35], (some 35), none⟩,
   ⟨false, [], [1000000001], .det 2 (.copy 35), [29, 35], (some 29), none⟩,
   ⟨false, [], [1000000001], .det 2 (.ext 29 0 15), [36, 29], (some 36), none⟩,
   ⟨false, [], [1000000001], .det 1 (.ext 29 15 1), [37], (some 37), none⟩,
   ⟨false, [], [], .det 2 (.a (.c [.i .i64, .sl [.i .i64], .sl [.i .i64, .i .i64], .sl [.sl [.i .i64]], .sl [.i .i64], .i .i64, .i .i64, .i .i64, .i .i64, .i .i64, .i .i64, .i .i64, .sl [.i .i64, .i .i64], .i .i64, .sl [.i .i64, .i .i64, .i .i64, .i .i64, .i .i64, .i .i64]] [.int .i64 (0), .slice none 0 0, .slice none 0 0, .slice none 0 0, .slice none 0 0, .int .i64 (0), .int .i64 (0), .int .i64 (0), .int .i64 (0), .int .i64 (0), .int .i64 (0), .int .i64 (0), .slice none 0 0, .int .i64 (0), .slice none 0 0])), [8, 1000000001], (some 8), none⟩,
   o4 2 [8, 36] (.store 8 [] 0 .nil (.t 36)),
   o1 9 (.copy 37)])
 (.seq (.rg [o1 38 (.load 3 [] 0 .nil 15 false),
   o3 39 71 [.t 38],
   ⟨false, [], [], .det 2 (.a (.c [.i .i64, .sl [.i .i64], .sl [.i .i64, .i .i64], .sl [.sl [.i .i64]], .sl [.i .i64], .i .i64, .i .i64, .i .i64, .i .i64, .i .i64, .i .i64, .i .i64, .sl [.i .i64, .i .i64], .i .i64, .sl [.i .i64, .i .i64, .i .i64, .i .i64, .i .i64, .i .i64]] [.int .i64 (0), .slice none 0 0, .slice none 0 0, .slice none 0 0, .slice none 0 0, .int .i64 (0), .int .i64 (0), .int .i64 (0), .int .i64 (0), .int .i64 (0), .int .i64 (0), .int .i64 (0), .slice none 0 0, .int .i64 (0), .slice none 0 0])), [10, 1000000001], (some 10), none⟩,
   o4 2 [10, 39] (.store 10 [] 0 .nil (.t 39))])
 (.seq (.rg [o1 40 (.load 5 [] 0 .nil 4 false),
   o3 41 72 [.t 40],
   ⟨false, [], [], .det 2 (.a (.c [.i .i64, .b, .sl [.i .i64, .i .i64], .sl [.i .i64]] [.int .i64 (0), .bool false, .slice none 0 0, .slice none 0 0])), [11, 1000000001], (some 11), none⟩,
   o4 2 [11, 41] (.store 11 [] 0 .nil (.t 41))])
 (.seq (.rg [o1 43 (.load 10 [] 0 .nil 15 true),
   o1 44 (.copy 1),
   o1 45 (.load 11 [] 0 .nil 4 true),
   o3 46 73 [.t 43, .t 44, .t 45],
   ⟨false, [], [], .det 2 (.copy 46), [42, 46], (some 42), none⟩,
   ⟨false, [], [], .det 2 (.ext 42 0 15), [47, 42], (some 47), none⟩,
   o1 48 (.ext 42 15 1),
   ⟨false, [], [], .det 2 (.a (.c [.i .i64, .sl [.i .i64], .sl [.i .i64, .i .i64], .sl [.sl [.i .i64]], .sl [.i .i64], .i .i64, .i .i64, .i .i64, .i .i64, .i .i64, .i .i64, .i .i64, .sl [.i .i64, .i .i64], .i .i64, .sl [.i .i64, .i .i64, .i .i64, .i .i64, .i .i64, .i .i64]] [.int .i64 (0), .slice none 0 0, .slice none 0 0, .slice none 0 0, .slice none 0 0, .int .i64 (0), .int .i64 (0), .int .i64 (0), .int .i64 (0), .int .i64 (0), .int .i64 (0), .int .i64 (0), .slice none 0 0, .int .i64 (0), .slice none 0 0])), [12, 1000000001], (some 12), none⟩,
   o4 2 [12, 47] (.store 12 [] 0 .nil (.t 47)),
   o1 13 (.copy 48)])
 (.seq (.seq (.join [⟨57, [.b], false⟩] 287667426198290432 none (.rg [o1 49 (.load 12 [] 0 .nil 15 true),
   o1 50 (.load 8 [] 0 .nil 15 true),
   o3 51 74 [.t 49, .t 50],
   o1 52 (.data .not [.t 51]),
   o1 53 (.copy 52),
   o2 54 (.copy 13) 4 false,
   o2 55 (.copy 9) 4 false,
   o2 56 (.data (.bin .neq) [.t 54, .t 55]) 4 false,
   ⟨false, [], [], .pick 53 (.c (.bool true)) (.t 56), [57], (some 57), none⟩]))
 (.cond (.t 57)
  (.seq (.rg [o1 6 (.lit [.b] [.bool false])])
  .ret)
  .skip))
 (.seq (.seq (.rg [o1 58 (.load 10 [] 0 .nil 15 true),
   o1 59 (.load 3 [] 0 .nil 15 false),
   o3 60 71 [.t 59],
   o3 61 74 [.t 58, .t 60],
   o1 62 (.data .not [.t 61])])
 (.cond (.t 62)
  (.seq (.rg [o1 6 (.lit [.b] [.bool false])])
  .ret)
  .skip))
 (.seq (.seq (.rg [o1 63 (.load 11 [] 0 .nil 4 true),
   o1 64 (.load 5 [] 0 .nil 4 false),
   o3 65 72 [.t 64],
   o3 66 75 [.t 63, .t 65],
   o1 67 (.data .not [.t 66])])
 (.cond (.t 67)
  (.seq (.rg [o1 6 (.lit [.b] [.bool false])])
  .ret)
  .skip))
 (.seq (.rg [o1 14 (.lit [.i .i64] [.int .i64 (1)])])
 (.seq (.rg [o1 68 (.load 10 [] 0 .nil 15 true),
   o1 69 (.copy 14),
   ⟨false, [], [], .call 2 76 [.t 68, .t 69] (.mt 10 [] 0 68 0), [70, 10, 43, 58, 68], (some 70), none⟩,
   o1 14 (.copy 70)])
 (.seq (.rg [o1 71 (.load 11 [] 0 .nil 4 true),
   o1 72 (.copy 14),
   ⟨false, [], [], .call 2 77 [.t 71, .t 72] (.mt 11 [] 0 71 0), [73, 11, 45, 63, 71], (some 73), none⟩,
   o1 14 (.copy 73)])
 (.seq (.seq (.join [⟨86, [.b], false⟩] 154723615444741055781535744 none (.rg [o1 74 (.copy 14),
   o1 75 (.data (.bin .lss) [.t 74, .c (.int .i64 (0))]),
   o1 76 (.copy 75),
   o2 77 (.load 12 [] 0 .nil 15 true) 2 false,
   o2 78 (.load 8 [] 0 .nil 15 true) 2 false,
   ⟨false, [], [], .call 1 74 [.t 77, .t 78] .no, [79], (some 79), some (2, false)⟩,
   o2 80 (.data .not [.t 79]) 2 false,
   ⟨false, [], [], .pick 76 (.c (.bool true)) (.t 80), [81], (some 81), none⟩,
   o1 82 (.copy 81),
   o2 83 (.copy 13) 8 false,
   o2 84 (.copy 9) 8 false,
   o2 85 (.data (.bin .neq) [.t 83, .t 84]) 8 false,
   ⟨false, [], [], .pick 82 (.c (.bool true)) (.t 85), [86], (some 86), none⟩]))
 (.cond (.t 86)
  (.seq (.rg [o1 6 (.lit [.b] [.bool false])])
  .ret)
  .skip))
 (.seq (.rg [o1 15 (.lit [.i .i64] [.int .i64 (1)])])
 (.seq (.rg [o1 87 (.load 12 [] 0 .nil 15 true),
   o1 88 (.copy 15),
   ⟨false, [], [], .call 2 76 [.t 87, .t 88] (.mt 12 [] 0 87 0), [89, 12, 49, 87], (some 89), none⟩,
   o1 15 (.copy 89)])
 (.seq (.rg [o1 16 (.lit [.i .i64] [.int .i64 (1)])])
 (.seq (.rg [o1 90 (.load 12 [] 0 .nil 15 true),
   o1 91 (.copy 16),
   o3 92 78 [.t 90, .t 91],
   o1 16 (.copy 92)])
 (.seq (.seq (.rg [o1 93 (.copy 16),
   o1 94 (.data (.bin .lss) [.t 93, .c (.int .i64 (0))])])
 (.cond (.t 94)
  (.seq (.rg [o1 6 (.lit [.b] [.bool false])])
  .ret)
  .skip))
 (.seq (.seq (.rg [o1 95 (.copy 16),
   o1 96 (.copy 15),
   o1 97 (.data (.bin .neq) [.t 95, .t 96])])
 (.cond (.t 97)
  (.seq (.rg [o1 6 (.lit [.b] [.bool false])])
  .ret)
  .skip))
 (.seq (.rg [⟨false, [], [1000000001], .det 1 (.load 3 [] 0 .nil 15 false), [99], (some 99), none⟩,
   ⟨false, [], [1000000001], .call 1 71 [.t 99] .no, [100], (some 100), none⟩,
   o1 101 (.copy 1),
   ⟨false, [], [1000000001], .det 1 (.load 5 [] 0 .nil 4 false), [102], (some 102), none⟩,
   ⟨false, [], [1000000001], .call 1 72 [.t 102] .no, [103], (some 103), none⟩,
   ⟨false, [], [1000000001], .call 1 73 [.t 100, .t 101, .t 103] .no, [104], (some 104), none⟩,
   ⟨false, [], [1000000001], .det 2 (.copy 104), [98, 104], (some 98), none⟩,
   ⟨false, [], [1000000001], .det 2 (.ext 98 0 15), [105, 98], (some 105), none⟩,
   ⟨false, [], [1000000001], .det 1 (.ext 98 15 1), [106], (some 106), none⟩,
   ⟨false, [], [], .det 2 (.a (.c [.i .i64, .sl [.i .i64], .sl [.i .i64, .i .i64], .sl [.sl [.i .i64]], .sl [.i .i64], .i .i64, .i .i64, .i .i64, .i .i64, .i .i64, .i .i64, .i .i64, .sl [.i .i64, .i .i64], .i .i64, .sl [.i .i64, .i .i64, .i .i64, .i .i64, .i .i64, .i .i64]] [.int .i64 (0), .slice none 0 0, .slice none 0 0, .slice none 0 0, .slice none 0 0, .int .i64 (0), .int .i64 (0), .int .i64 (0), .int .i64 (0), .int .i64 (0), .int .i64 (0), .int .i64 (0), .slice none 0 0, .int .i64 (0), .slice none 0 0])), [17, 1000000001], (some 17), none⟩,
   o4 2 [17, 105] (.store 17 [] 0 .nil (.t 105)),
   o1 18 (.copy 106)])
 (.seq (.seq (.join [⟨115, [.b], false⟩] 82914490459728028693096363257233408 none (.rg [o1 107 (.load 17 [] 0 .nil 15 true),
   o1 108 (.load 8 [] 0 .nil 15 true),
   o3 109 74 [.t 107, .t 108],
   o1 110 (.data .not [.t 109]),
   o1 111 (.copy 110),
   o2 112 (.copy 18) 4 false,
   o2 113 (.copy 9) 4 false,
   o2 114 (.data (.bin .neq) [.t 112, .t 113]) 4 false,
   ⟨false, [], [], .pick 111 (.c (.bool true)) (.t 114), [115], (some 115), none⟩]))
 (.cond (.t 115)
  (.seq (.rg [o1 6 (.lit [.b] [.bool false])])
  .ret)
  .skip))
 (.seq (.rg [o1 16 (.lit [.i .i64] [.int .i64 (1)])])
 (.seq (.rg [o1 116 (.load 12 [] 0 .nil 15 true),
   o1 117 (.copy 16),
   o3 118 78 [.t 116, .t 117],
   o1 16 (.copy 118)])
 (.seq (.seq (.rg [o1 119 (.copy 16),
   o1 120 (.data (.bin .lss) [.t 119, .c (.int .i64 (0))])])
 (.cond (.t 120)
  (.seq (.rg [o1 6 (.lit [.b] [.bool false])])
  .ret)
  .skip))
 (.seq (.seq (.rg [o1 121 (.copy 16),
   o1 122 (.copy 15),
   o1 123 (.data (.bin .neq) [.t 121, .t 122])])
 (.cond (.t 123)
  (.seq (.rg [o1 6 (.lit [.b] [.bool false])])
  .ret)
  .skip))
 (.seq (.rg [o1 6 (.lit [.b] [.bool true])])
 .ret))))))))))))))))))))))))))))))
def s_lFnExactHear : Sig := ⟨[.rd true [.d, .sl (.own none) [.d], .sl (.own none) [.d, .d], .sl (.own none) [.sl (.own none) [.d]], .sl (.own none) [.d], .d, .d, .d, .d, .d, .d, .d, .sl (.own none) [.d, .d], .d, .sl (.own none) [.d, .d, .d, .d, .d, .d]], .rd false [.d], .rd true [.d, .d, .sl (.own none) [.d, .d], .sl (.own none) [.d]]], (.one false [.d])⟩
noncomputable def E_lFnExactHear : TEnv := envOf [(68, p_lszHead), (69, p_lszAnswer), (71, p_ltoHead), (72, p_ltoAnswer), (70, p_sHear), (73, p_iHear), (74, p_leqHead), (75, p_leqAnswer), (76, p_lmarkHead), (77, p_lmarkAnswer), (78, p_lheldHead)]
noncomputable def f_lFnExactHear (n : Nat) : (Int × List (Int) × List (Int × Int) × List (List (Int)) × List (Int) × Int × Int × Int × Int × Int × Int × Int × List (Int × Int) × Int × List (Int × Int × Int × Int × Int × Int)) × Int × (Int × Bool × List (Int × Int) × List (Int)) → Option ((Bool) × Unit) := runFn n E_lFnExactHear c_lFnExactHear [[.i .i64, .sl [.i .i64], .sl [.i .i64, .i .i64], .sl [.sl [.i .i64]], .sl [.i .i64], .i .i64, .i .i64, .i .i64, .i .i64, .i .i64, .i .i64, .i .i64, .sl [.i .i64, .i .i64], .i .i64, .sl [.i .i64, .i .i64, .i .i64, .i .i64, .i .i64, .i .i64]], [.i .i64], [.i .i64, .b, .sl [.i .i64, .i .i64], .sl [.i .i64]]] [.b] [] [6] .no
noncomputable def g_lFnExactHear := f_lFnExactHear BIG
noncomputable def p_lFnExactHear : TSp := ⟨s_lFnExactHear, [[.i .i64, .sl [.i .i64], .sl [.i .i64, .i .i64], .sl [.sl [.i .i64]], .sl [.i .i64], .i .i64, .i .i64, .i .i64, .i .i64, .i .i64, .i .i64, .i .i64, .sl [.i .i64, .i .i64], .i .i64, .sl [.i .i64, .i .i64, .i .i64, .i .i64, .i .i64, .i .i64]], [.i .i64], [.i .i64, .b, .sl [.i .i64, .i .i64], .sl [.i .i64]]], [.b], [], Ou.j .no, g_lFnExactHear⟩
theorem k_lFnExactHear : chkW PG E_lFnExactHear 13 s_lFnExactHear (c_lFnExactHear.ht 124) .no = some (c_lFnExactHear.wc E_lFnExactHear, [6]) := by kernel_rfl
theorem ok_lFnExactHear : p_lFnExactHear.Ok PG 13 := mkOk (env_cons ok_lszHead (env_cons ok_lszAnswer (env_cons ok_ltoHead (env_cons ok_ltoAnswer (env_cons ok_sHear (env_cons ok_iHear (env_cons ok_leqHead (env_cons ok_leqAnswer (env_cons ok_lmarkHead (env_cons ok_lmarkAnswer (env_cons ok_lheldHead (env_nil PG)))))))))))) k_lFnExactHear (by kernel_rfl)
theorem e_lFnExactHear (n : Nat) (a0 : Int × List (Int) × List (Int × Int) × List ((List (Int))) × List (Int) × Int × Int × Int × Int × Int × Int × Int × List (Int × Int) × Int × List (Int × Int × Int × Int × Int × Int)) (a1 : Int) (a2 : Int × Bool × List (Int × Int) × List (Int)) : f_lFnExactHear n (a0, a1, a2) =
  Option.bind (g_lszHead (a0, (1048576 : Int))) fun r0 =>
  bif decide (r0.1 < (0 : Int)) then
   some (true, ())
  else Option.bind (g_lszAnswer (a2, r0.1)) fun r1 =>
  bif decide (r1.1 < (0 : Int)) then
   some (true, ())
  else Option.bind (g_ltoHead a0) fun r2 =>
  Option.bind (g_ltoAnswer a2) fun r3 =>
  Option.bind (g_sHear (r2.1, a1, r3.1)) fun r4 =>
  Option.bind (g_ltoHead a0) fun r5 =>
  Option.bind (g_ltoAnswer a2) fun r6 =>
  Option.bind (g_iHear (r5.1, a1, r6.1)) fun r7 =>
  Option.bind (Option.bind (g_leqHead ((r7.1.1, r7.1.2.1, r7.1.2.2.1, r7.1.2.2.2.1, r7.1.2.2.2.2.1, r7.1.2.2.2.2.2.1, r7.1.2.2.2.2.2.2.1, r7.1.2.2.2.2.2.2.2.1, r7.1.2.2.2.2.2.2.2.2.1, r7.1.2.2.2.2.2.2.2.2.2.1, r7.1.2.2.2.2.2.2.2.2.2.2.1, r7.1.2.2.2.2.2.2.2.2.2.2.2.1, r7.1.2.2.2.2.2.2.2.2.2.2.2.2.1, r7.1.2.2.2.2.2.2.2.2.2.2.2.2.2.1, r7.1.2.2.2.2.2.2.2.2.2.2.2.2.2.2.1), (r4.1.1, r4.1.2.1, r4.1.2.2.1, r4.1.2.2.2.1, r4.1.2.2.2.2.1, r4.1.2.2.2.2.2.1, r4.1.2.2.2.2.2.2.1, r4.1.2.2.2.2.2.2.2.1, r4.1.2.2.2.2.2.2.2.2.1, r4.1.2.2.2.2.2.2.2.2.2.1, r4.1.2.2.2.2.2.2.2.2.2.2.1, r4.1.2.2.2.2.2.2.2.2.2.2.2.1, r4.1.2.2.2.2.2.2.2.2.2.2.2.2.1, r4.1.2.2.2.2.2.2.2.2.2.2.2.2.2.1, r4.1.2.2.2.2.2.2.2.2.2.2.2.2.2.2.1))) fun r8 =>
   bif !r8.1 then
    some true
   else some (!decide (r7.1.2.2.2.2.2.2.2.2.2.2.2.2.2.2.2 = r4.1.2.2.2.2.2.2.2.2.2.2.2.2.2.2.2)) : Option (Bool)) fun x9 =>
  bif x9 then
   some (false, ())
  else Option.bind (g_ltoHead a0) fun r10 =>
  Option.bind (g_leqHead (r5.1, r10.1)) fun r11 =>
  bif !r11.1 then
   some (false, ())
  else Option.bind (g_ltoAnswer a2) fun r12 =>
  Option.bind (g_leqAnswer (r6.1, r12.1)) fun r13 =>
  bif !r13.1 then
   some (false, ())
  else Option.bind (g_lmarkHead (r5.1, (1 : Int))) fun r14 =>
  Option.bind (g_lmarkAnswer (r6.1, r14.1)) fun r15 =>
  Option.bind (bif decide (r15.1 < (0 : Int)) then
    some true
   else Option.bind (g_leqHead ((r7.1.1, r7.1.2.1, r7.1.2.2.1, r7.1.2.2.2.1, r7.1.2.2.2.2.1, r7.1.2.2.2.2.2.1, r7.1.2.2.2.2.2.2.1, r7.1.2.2.2.2.2.2.2.1, r7.1.2.2.2.2.2.2.2.2.1, r7.1.2.2.2.2.2.2.2.2.2.1, r7.1.2.2.2.2.2.2.2.2.2.2.1, r7.1.2.2.2.2.2.2.2.2.2.2.2.1, r7.1.2.2.2.2.2.2.2.2.2.2.2.2.1, r7.1.2.2.2.2.2.2.2.2.2.2.2.2.2.1, r7.1.2.2.2.2.2.2.2.2.2.2.2.2.2.2.1), (r4.1.1, r4.1.2.1, r4.1.2.2.1, r4.1.2.2.2.1, r4.1.2.2.2.2.1, r4.1.2.2.2.2.2.1, r4.1.2.2.2.2.2.2.1, r4.1.2.2.2.2.2.2.2.1, r4.1.2.2.2.2.2.2.2.2.1, r4.1.2.2.2.2.2.2.2.2.2.1, r4.1.2.2.2.2.2.2.2.2.2.2.1, r4.1.2.2.2.2.2.2.2.2.2.2.2.1, r4.1.2.2.2.2.2.2.2.2.2.2.2.2.1, r4.1.2.2.2.2.2.2.2.2.2.2.2.2.2.1, r4.1.2.2.2.2.2.2.2.2.2.2.2.2.2.2.1))) fun r16 =>
   bif !r16.1 then
    some true
   else some (!decide (r7.1.2.2.2.2.2.2.2.2.2.2.2.2.2.2.2 = r4.1.2.2.2.2.2.2.2.2.2.2.2.2.2.2.2)) : Option (Bool)) fun x17 =>
  bif x17 then
   some (false, ())
  else Option.bind (g_lmarkHead ((r7.1.1, r7.1.2.1, r7.1.2.2.1, r7.1.2.2.2.1, r7.1.2.2.2.2.1, r7.1.2.2.2.2.2.1, r7.1.2.2.2.2.2.2.1, r7.1.2.2.2.2.2.2.2.1, r7.1.2.2.2.2.2.2.2.2.1, r7.1.2.2.2.2.2.2.2.2.2.1, r7.1.2.2.2.2.2.2.2.2.2.2.1, r7.1.2.2.2.2.2.2.2.2.2.2.2.1, r7.1.2.2.2.2.2.2.2.2.2.2.2.2.1, r7.1.2.2.2.2.2.2.2.2.2.2.2.2.2.1, r7.1.2.2.2.2.2.2.2.2.2.2.2.2.2.2.1), (1 : Int))) fun r18 =>
  Option.bind (g_lheldHead (r18.2, (1 : Int))) fun r19 =>
  bif decide (r19.1 < (0 : Int)) then
   some (false, ())
  else bif !decide (r19.1 = r18.1) then
   some (false, ())
  else Option.bind (g_ltoHead a0) fun r20 =>
  Option.bind (g_ltoAnswer a2) fun r21 =>
  Option.bind (g_iHear (r20.1, a1, r21.1)) fun r22 =>
  Option.bind (Option.bind (g_leqHead ((r22.1.1, r22.1.2.1, r22.1.2.2.1, r22.1.2.2.2.1, r22.1.2.2.2.2.1, r22.1.2.2.2.2.2.1, r22.1.2.2.2.2.2.2.1, r22.1.2.2.2.2.2.2.2.1, r22.1.2.2.2.2.2.2.2.2.1, r22.1.2.2.2.2.2.2.2.2.2.1, r22.1.2.2.2.2.2.2.2.2.2.2.1, r22.1.2.2.2.2.2.2.2.2.2.2.2.1, r22.1.2.2.2.2.2.2.2.2.2.2.2.2.1, r22.1.2.2.2.2.2.2.2.2.2.2.2.2.2.1, r22.1.2.2.2.2.2.2.2.2.2.2.2.2.2.2.1), (r4.1.1, r4.1.2.1, r4.1.2.2.1, r4.1.2.2.2.1, r4.1.2.2.2.2.1, r4.1.2.2.2.2.2.1, r4.1.2.2.2.2.2.2.1, r4.1.2.2.2.2.2.2.2.1, r4.1.2.2.2.2.2.2.2.2.1, r4.1.2.2.2.2.2.2.2.2.2.1, r4.1.2.2.2.2.2.2.2.2.2.2.1, r4.1.2.2.2.2.2.2.2.2.2.2.2.1, r4.1.2.2.2.2.2.2.2.2.2.2.2.2.1, r4.1.2.2.2.2.2.2.2.2.2.2.2.2.2.1, r4.1.2.2.2.2.2.2.2.2.2.2.2.2.2.2.1))) fun r23 =>
   bif !r23.1 then
    some true
   else some (!decide (r22.1.2.2.2.2.2.2.2.2.2.2.2.2.2.2.2 = r4.1.2.2.2.2.2.2.2.2.2.2.2.2.2.2.2)) : Option (Bool)) fun x24 =>
  bif x24 then
   some (false, ())
  else Option.bind (g_lheldHead (r18.2, (1 : Int))) fun r25 =>
  bif decide (r25.1 < (0 : Int)) then
   some (false, ())
  else bif !decide (r25.1 = r18.1) then
   some (false, ())
  else some (true, ()) := by kernel_rfl
end Go.Fw
