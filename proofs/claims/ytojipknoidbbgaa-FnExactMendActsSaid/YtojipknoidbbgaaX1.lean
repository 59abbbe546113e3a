/- The given functions, as what they compute; each is shown to be what the code does. No conditions. -/
import Derived.Test.YtojipknoidbbgaaX0
set_option linter.unusedVariables false
set_option linter.unusedSimpArgs false
namespace Go.Fw
/- impl.labelsOk -/
def c_ilabelsOk : TC :=
 (.seq (.rg [o1 4 (.lit [.b] [.bool false])])
 (.seq (.seq (.rg [o1 7 (.copy 1),
   o1 8 (.len 7),
   o1 9 (.copy 0),
   o1 10 (.data (.bin .neq) [.t 8, .t 9])])
 (.cond (.t 10)
  (.seq (.rg [o1 4 (.lit [.b] [.bool false])])
  .ret)
  .skip))
 (.seq (.join [] 2147481712 (some [⟨4, [.b], false⟩]) (.seq (.rg [o1 11 (.copy 1),
   o1 12 (.len 11),
   o1 13 (.lit [.i .i64] [.int .i64 (0)])])
 (.block 0 (.loop [⟨13, [.i .i64], false⟩] 2147475568
  (.seq (.rg [o1 14 (.data (.bin .lss) [.t 13, .t 12])])
  (.seq (.cond (.t 14)
   .skip
   (.exit 0))
  (.seq (.join [] 1073709168 (some [⟨4, [.b], false⟩]) (.block 1 (.seq (.rg [o1 15 (.copy 13),
    o1 16 (.index 11 (.t 13)),
    o1 17 (.load 11 [(0, 1)] 0 (.t 16) 1 false),
    o1 5 (.copy 15),
    o1 6 (.copy 17)])
  (.seq (.join [⟨29, [.b], false⟩] 1073479680 none (.rg [o1 18 (.copy 6),
    o1 19 (.copy 5),
    o3 20 101 [.t 18, .c [.i .i64] [.int .i64 (0)], .t 19],
    o1 21 (.data .not [.t 20]),
    o1 22 (.copy 21),
    o2 23 (.copy 1) 4 false,
    o2 24 (.copy 6) 4 false,
    o2 25 (.index 23 (.t 24)) 4 false,
    o2 26 (.load 23 [(0, 1)] 0 (.t 25) 1 false) 4 false,
    o2 27 (.copy 6) 4 false,
    o2 28 (.data (.bin .neq) [.t 26, .t 27]) 4 false,
    ⟨false, [], [], .pick 22 (.c (.bool true)) (.t 28), [29], (some 29), none⟩]))
  (.cond (.t 29)
   (.seq (.rg [o1 4 (.lit [.b] [.bool false])])
   .ret)
   .skip)))))
  (.rg [o1 30 (.data (.bin .add) [.t 13, .c (.int .i64 (1))]),
    o1 13 (.copy 30)]))))))))
 (.seq (.rg [o1 4 (.lit [.b] [.bool true])])
 .ret))))
def s_ilabelsOk : Sig := ⟨[.rd false [.d], .rd false [.sl (.own none) [.d]]], (.one false [.d])⟩
noncomputable def E_ilabelsOk : TEnv := envOf [(101, p_iin)]
noncomputable def f_ilabelsOk (n : Nat) : Int × List (Int) → Option ((Bool) × Unit) := runFn n E_ilabelsOk c_ilabelsOk [[.i .i64], [.sl [.i .i64]]] [.b] [] [4] .no
noncomputable def g_ilabelsOk := f_ilabelsOk BIG
noncomputable def p_ilabelsOk : TSp := ⟨s_ilabelsOk, [[.i .i64], [.sl [.i .i64]]], [.b], [], Ou.j .no, g_ilabelsOk⟩
theorem k_ilabelsOk : chkW PG E_ilabelsOk 123 s_ilabelsOk (c_ilabelsOk.ht 31) .no = some (c_ilabelsOk.wc E_ilabelsOk, [4]) := by kernel_rfl
theorem ok_ilabelsOk : p_ilabelsOk.Ok PG 123 := mkOk (env_cons ok_iin (env_nil PG)) k_ilabelsOk (by kernel_rfl)
theorem e_ilabelsOk (n : Nat) (a0 : Int) (a1 : List (Int)) : f_ilabelsOk n (a0, a1) =
  bif !decide ((a1.length : Int) = a0) then
   some (false, ())
  else Option.bind (loopT n (X := Int) (B := (Unit) ⊕ (Bool)) (fun self1 x0 =>
    bif decide (x0 < (a1.length : Int)) then
     Option.bind (bnd a1.length x0 fun n2 =>
      Option.bind a1[n2]? fun y3 =>
      Option.bind (Option.bind (g_iin (y3, (0 : Int), x0)) fun r4 =>
       bif !r4.1 then
        some true
       else bnd a1.length y3 fun n5 =>
       Option.bind a1[n5]? fun y6 =>
       some (!decide (y6 = y3)) : Option (Bool)) fun x7 =>
      bif x7 then
       some (Sum.inr false)
      else some (Sum.inl ()) : Option ((Unit) ⊕ (Bool))) fun y => match y with
     | .inl x8 =>
      self1 (IntKind.wrap .i64 (x0 + (1 : Int)))
     | .inr x8 =>
      some (Sum.inr x8)
    else some (Sum.inl ())) (0 : Int) : Option ((Unit) ⊕ (Bool))) fun y => match y with
  | .inl x9 =>
   some (true, ())
  | .inr x9 =>
   some (x9, ()) := by kernel_rfl
/- impl.AnswerOk -/
def c_iAnswerOk : TC :=
 (.seq (.rg [o1 3 (.a (.t 1)),
   o1 4 (.lit [.b] [.bool false])])
 (.seq (.join [⟨4, [.b], false⟩] 16777200 none (.rg [o1 5 (.copy 0),
   o3 6 101 [.t 5, .c [.i .i64] [.int .i64 (1)], .c [.i .i64] [.int .i64 (12)]],
   o1 7 (.copy 6),
   o2 8 (.idx .nil) 2 true,
   o2 9 (.load 3 [] 0 (.t 8) 1 false) 2 true,
   ⟨false, [], [], .call 1 101 [.t 9, .c [.i .i64] [.int .i64 (1)], .c [.i .i64] [.int .i64 (100000)]] .no, [10], (some 10), some (2, true)⟩,
   ⟨false, [], [], .pick 7 (.t 10) (.c (.bool false)), [11], (some 11), none⟩,
   o1 12 (.copy 11),
   o2 13 (.copy 0) 7 true,
   o2 14 (.idx .nil) 7 true,
   o2 15 (.load 3 [] 2 (.t 14) 1 false) 7 true,
   ⟨false, [], [], .call 1 232 [.t 13, .t 15] .no, [16], (some 16), some (7, true)⟩,
   ⟨false, [], [], .pick 12 (.t 16) (.c (.bool false)), [17], (some 17), none⟩,
   o1 18 (.copy 17),
   o2 19 (.copy 0) 13 true,
   o2 20 (.idx .nil) 13 true,
   o2 21 (.load 3 [] 3 (.t 20) 1 false) 13 true,
   ⟨false, [], [], .call 1 123 [.t 19, .t 21] .no, [22], (some 22), some (13, true)⟩,
   ⟨false, [], [], .pick 18 (.t 22) (.c (.bool false)), [23], (some 23), none⟩,
   o1 4 (.copy 23)]))
 .ret))
def s_iAnswerOk : Sig := ⟨[.rd false [.d], .rd true [.d, .d, .sl (.own none) [.d, .d], .sl (.own none) [.d]]], (.one false [.d])⟩
noncomputable def E_iAnswerOk : TEnv := envOf [(101, p_iin), (232, p_iedgesOk), (123, p_ilabelsOk)]
noncomputable def f_iAnswerOk (n : Nat) : Int × (Int × Bool × List (Int × Int) × List (Int)) → Option ((Bool) × Unit) := runFn n E_iAnswerOk c_iAnswerOk [[.i .i64], [.i .i64, .b, .sl [.i .i64, .i .i64], .sl [.i .i64]]] [.b] [] [4] .no
noncomputable def g_iAnswerOk := f_iAnswerOk BIG
noncomputable def p_iAnswerOk : TSp := ⟨s_iAnswerOk, [[.i .i64], [.i .i64, .b, .sl [.i .i64, .i .i64], .sl [.i .i64]]], [.b], [], Ou.j .no, g_iAnswerOk⟩
theorem k_iAnswerOk : chkW PG E_iAnswerOk 136 s_iAnswerOk (c_iAnswerOk.ht 24) .no = some (c_iAnswerOk.wc E_iAnswerOk, [4]) := by kernel_rfl
theorem ok_iAnswerOk : p_iAnswerOk.Ok PG 136 := mkOk (env_cons ok_iin (env_cons ok_iedgesOk (env_cons ok_ilabelsOk (env_nil PG)))) k_iAnswerOk (by kernel_rfl)
theorem e_iAnswerOk (n : Nat) (a0 : Int) (a1 : Int × Bool × List (Int × Int) × List (Int)) : f_iAnswerOk n (a0, a1) =
  Option.bind (Option.bind (g_iin (a0, (1 : Int), (12 : Int))) fun r0 =>
   bif r0.1 then
    Option.bind (g_iin (a1.1, (1 : Int), (100000 : Int))) fun r1 =>
    bif r1.1 then
     Option.bind (g_iedgesOk (a0, a1.2.2.1)) fun r2 =>
     bif r2.1 then
      Option.bind (g_ilabelsOk (a0, a1.2.2.2)) fun r3 =>
      some r3.1
     else some false
    else some false
   else some false : Option (Bool)) fun x4 =>
  some (x4, ()) := by kernel_rfl
/- impl.ReadAnswer -/
def c_iReadAnswer : TC :=
 (.seq (.rg [⟨false, [], [], .det 2 (.a (.c [.i .i64, .b, .sl [.i .i64, .i .i64], .sl [.i .i64]] [.int .i64 (0), .bool false, .slice none 0 0, .slice none 0 0])), [4, 1000000001], (some 4), none⟩,
   o1 5 (.lit [.b] [.bool false])])
 (.seq (.seq (.rg [o1 10 (.copy 0),
   o3 11 101 [.t 10, .c [.i .i64] [.int .i64 (1)], .c [.i .i64] [.int .i64 (12)]],
   o1 12 (.data .not [.t 11])])
 (.cond (.t 12)
  (.seq (.rg [o1 13 (.build [.i .i64, .b, .sl [.i .i64, .i .i64], .sl [.i .i64]] []),
    o4 2 [4, 13] (.store 4 [] 0 .nil (.t 13)),
    o1 5 (.lit [.b] [.bool false])])
  .ret)
  .skip))
 (.seq (.rg [o1 14 (.copy 1),
   o1 15 (.build [.s, .i .i64, .b] [(0, .t 14)]),
   o1 16 (.a (.t 15)),
   o1 6 (.p0)])
 (.seq (.rg [⟨false, [], [], .det 2 (.a (.c [.i .i64, .b, .sl [.i .i64, .i .i64], .sl [.i .i64]] [.int .i64 (0), .bool false, .slice none 0 0, .slice none 0 0])), [7, 1000000001], (some 7), none⟩])
 (.seq (.rg [o1 17 (.same 6),
   ⟨false, [], [], .call 2 268 [.t 16] (.mp 0), [18, 16], (some 18), none⟩,
   o1 19 (.idx .nil),
   o4 1 [7] (.store 7 [] 0 (.t 19) (.t 18))])
 (.seq (.rg [o1 20 (.same 6),
   ⟨false, [], [], .call 2 267 [.t 16] (.mp 0), [21, 16], (some 21), none⟩,
   o1 8 (.copy 21)])
 (.seq (.rg [o1 22 (.copy 8),
   o1 23 (.data (.bin .eql) [.t 22, .c (.int .i64 (1))]),
   o1 24 (.idx .nil),
   o4 1 [7] (.store 7 [] 1 (.t 24) (.t 23))])
 (.seq (.rg [o1 25 (.same 6),
   ⟨false, [], [], .call 2 323 [.t 16] (.mp 0), [26, 16], (some 26), none⟩,
   o1 27 (.idx .nil),
   o4 2 [7, 26] (.store 7 [] 2 (.t 27) (.t 26))])
 (.seq (.join [⟨16, [.s, .i .i64, .b], false⟩, ⟨7, [.i .i64, .b, .sl [.i .i64, .i .i64], .sl [.i .i64]], false⟩] 1099243258496 none (.seq (.rg [o1 28 (.copy 0),
   o1 29 (.lit [.i .i64] [.int .i64 (0)])])
 (.block 0 (.loop [⟨16, [.s, .i .i64, .b], false⟩, ⟨7, [.i .i64, .b, .sl [.i .i64, .i .i64], .sl [.i .i64]], false⟩, ⟨29, [.i .i64], false⟩] 1098974823040
  (.seq (.rg [o1 30 (.data (.bin .lss) [.t 29, .t 28])])
  (.seq (.cond (.t 30)
   .skip
   (.exit 0))
  (.seq (.block 1 (.seq (.rg [o1 31 (.same 6),
    ⟨false, [], [], .call 2 267 [.t 16] (.mp 0), [32, 16], (some 32), none⟩,
    o1 9 (.copy 32)])
  (.rg [o1 33 (.idx .nil),
    o1 34 (.load 7 [] 3 (.t 33) 1 true),
    o1 35 (.copy 9),
    o1 36 (.sli [.i .i64] [.t 35]),
    ⟨false, [34], [], .det 2 (.app (some 34) 36), [37, 34, 34, 7], (some 37), none⟩,
    o1 38 (.idx .nil),
    o4 2 [7, 37, 34] (.store 7 [] 3 (.t 38) (.t 37))])))
  (.rg [o1 39 (.data (.bin .add) [.t 29, .c (.int .i64 (1))]),
    o1 29 (.copy 39)]))))))))
 (.seq (.seq (.join [⟨52, [.b], false⟩] 9006099743178752 none (.rg [o1 40 (.copy 8),
   o1 41 (.data (.bin .gtr) [.t 40, .c (.int .i64 (1))]),
   o1 42 (.copy 41),
   o2 43 (.same 6) 2 false,
   ⟨false, [], [], .call 2 273 [.t 16] (.mp 0), [44, 16], (some 44), some (2, false)⟩,
   o2 45 (.data .not [.t 44]) 2 false,
   ⟨false, [], [], .pick 42 (.c (.bool true)) (.t 45), [46], (some 46), none⟩,
   o1 47 (.copy 46),
   o2 48 (.copy 0) 7 false,
   o2 49 (.load 7 [] 0 .nil 4 true) 7 false,
   ⟨false, [], [], .call 1 136 [.t 48, .t 49] .no, [50], (some 50), some (7, false)⟩,
   o2 51 (.data .not [.t 50]) 7 false,
   ⟨false, [], [], .pick 47 (.c (.bool true)) (.t 51), [52], (some 52), none⟩]))
 (.cond (.t 52)
  (.seq (.rg [o1 53 (.build [.i .i64, .b, .sl [.i .i64, .i .i64], .sl [.i .i64]] []),
    o4 2 [4, 53] (.store 4 [] 0 .nil (.t 53)),
    o1 5 (.lit [.b] [.bool false])])
  .ret)
  .skip))
 (.seq (.rg [o1 54 (.load 7 [] 0 .nil 4 true),
   ⟨false, [54], [], .det 2 (.store 4 [] 0 .nil (.t 54)), [4, 54, 54, 7], none, none⟩,
   o1 5 (.lit [.b] [.bool true])])
 .ret)))))))))))
def s_iReadAnswer : Sig := ⟨[.rd false [.d], .rd false [.d]], (.tup [(true, 4), (false, 1)] [.d, .d, .sl (.own none) [.d, .d], .sl (.own none) [.d], .d])⟩
noncomputable def E_iReadAnswer : TEnv := envOf [(101, p_iin), (268, p_ireader_num), (267, p_ireader_one), (323, p_ireader_edges), (273, p_ireader_ends), (136, p_iAnswerOk)]
noncomputable def f_iReadAnswer (n : Nat) : Int × ByteArray → Option ((Int × Bool × List (Int × Int) × List (Int) × Bool) × Unit) := runFn n E_iReadAnswer c_iReadAnswer [[.i .i64], [.s]] [.i .i64, .b, .sl [.i .i64, .i .i64], .sl [.i .i64], .b] [] [4, 5] .no
noncomputable def g_iReadAnswer := f_iReadAnswer BIG
noncomputable def p_iReadAnswer : TSp := ⟨s_iReadAnswer, [[.i .i64], [.s]], [.i .i64, .b, .sl [.i .i64, .i .i64], .sl [.i .i64], .b], [], Ou.j .no, g_iReadAnswer⟩
theorem k_iReadAnswer : chkW PG E_iReadAnswer 269 s_iReadAnswer (c_iReadAnswer.ht 55) .no = some (c_iReadAnswer.wc E_iReadAnswer, [4, 5]) := by kernel_rfl
theorem ok_iReadAnswer : p_iReadAnswer.Ok PG 269 := mkOk (env_cons ok_iin (env_cons ok_ireader_num (env_cons ok_ireader_one (env_cons ok_ireader_edges (env_cons ok_ireader_ends (env_cons ok_iAnswerOk (env_nil PG))))))) k_iReadAnswer (by kernel_rfl)
theorem e_iReadAnswer (n : Nat) (a0 : Int) (a1 : ByteArray) : f_iReadAnswer n (a0, a1) =
  Option.bind (g_iin (a0, (1 : Int), (12 : Int))) fun r0 =>
  bif !r0.1 then
   some (((0 : Int), false, [], [], false), ())
  else Option.bind (g_ireader_num (a1, (0 : Int), false)) fun r1 =>
  Option.bind (g_ireader_one r1.2) fun r2 =>
  Option.bind (g_ireader_edges r2.2) fun r3 =>
  Option.bind (loopT n (X := (ByteArray × Int × Bool) × (Int × Bool × List (Int × Int) × List (Int)) × Int) (B := (ByteArray × Int × Bool) × (Int × Bool × List (Int × Int) × List (Int))) (fun self5 x4 =>
    bif decide (x4.2.2 < a0) then
     Option.bind (g_ireader_one x4.1) fun r6 =>
     bif decide (x4.2.1.2.2.2.length + [r6.1].length ≤ 4294967296) then
      self5 (r6.2, (x4.2.1.1, x4.2.1.2.1, x4.2.1.2.2.1, x4.2.1.2.2.2 ++ [r6.1]), IntKind.wrap .i64 (x4.2.2 + (1 : Int)))
     else none
    else some (x4.1, x4.2.1)) (r3.2, (r1.1, decide (r2.1 = (1 : Int)), r3.1, []), (0 : Int)) : Option ((ByteArray × Int × Bool) × (Int × Bool × List (Int × Int) × List (Int)))) fun x7 =>
  Option.bind (bif decide ((1 : Int) < r2.1) then
    some true
   else Option.bind (g_ireader_ends x7.1) fun r8 =>
   bif !r8.1 then
    some true
   else Option.bind (g_iAnswerOk (a0, x7.2)) fun r9 =>
   some !r9.1 : Option (Bool)) fun x10 =>
  bif x10 then
   some (((0 : Int), false, [], [], false), ())
  else some ((x7.2.1, x7.2.2.1, x7.2.2.2.1, x7.2.2.2.2, true), ()) := by kernel_rfl
/- impl.OrderOk -/
def c_iOrderOk : TC :=
 (.seq (.rg [o1 3 (.a (.t 1)),
   o1 4 (.lit [.b] [.bool false])])
 (.seq (.seq (.join [⟨30, [.b], false⟩] 2147483616 none (.rg [o1 5 (.copy 0),
   o3 6 101 [.t 5, .c [.i .i64] [.int .i64 (1)], .c [.i .i64] [.int .i64 (12)]],
   o1 7 (.data .not [.t 6]),
   o1 8 (.copy 7),
   o2 9 (.idx .nil) 3 false,
   o2 10 (.load 3 [] 0 (.t 9) 1 false) 3 false,
   ⟨false, [], [], .call 1 101 [.t 10, .c [.i .i64] [.int .i64 (1)], .c [.i .i64] [.int .i64 (100000)]] .no, [11], (some 11), some (3, false)⟩,
   o2 12 (.data .not [.t 11]) 3 false,
   ⟨false, [], [], .pick 8 (.c (.bool true)) (.t 12), [13], (some 13), none⟩,
   o1 14 (.copy 13),
   o2 15 (.copy 0) 9 false,
   o2 16 (.idx .nil) 9 false,
   o2 17 (.load 3 [] 2 (.t 16) 1 false) 9 false,
   ⟨false, [], [], .call 1 232 [.t 15, .t 17] .no, [18], (some 18), some (9, false)⟩,
   o2 19 (.data .not [.t 18]) 9 false,
   ⟨false, [], [], .pick 14 (.c (.bool true)) (.t 19), [20], (some 20), none⟩,
   o1 21 (.copy 20),
   o2 22 (.idx .nil) 16 false,
   o2 23 (.load 3 [] 3 (.t 22) 1 false) 16 false,
   o2 24 (.data (.bin .neq) [.t 23, .c (.int .i64 (0))]) 16 false,
   o2 25 (.copy 24) 16 false,
   o2 26 (.idx .nil) 20 true,
   o2 27 (.load 3 [] 1 (.t 26) 1 false) 20 true,
   o2 28 (.data (.bin .neq) [.t 27, .c (.int .i64 (3))]) 20 true,
   ⟨false, [], [], .pick 25 (.t 28) (.c (.bool false)), [29], (some 29), some (16, false)⟩,
   ⟨false, [], [], .pick 21 (.c (.bool true)) (.t 29), [30], (some 30), none⟩]))
 (.cond (.t 30)
  (.seq (.rg [o1 4 (.lit [.b] [.bool false])])
  .ret)
  .skip))
 (.seq (.join [] 576460750155939856 (some [⟨4, [.b], false⟩]) (.seq (.rg [o1 31 (.idx .nil),
   o1 32 (.load 3 [] 1 (.t 31) 1 false)])
 (.block 0 (.seq (.join [⟨33, [.b], false⟩] 60129542144 none (.seq (.rg [o1 34 (.data (.bin .eql) [.t 32, .c (.int .i64 (1))]),
   o1 33 (.copy 34)])
 (.cond (.t 33)
  .skip
  (.rg [o1 35 (.data (.bin .eql) [.t 32, .c (.int .i64 (2))]),
    o1 33 (.copy 35)]))))
 (.cond (.t 33)
  (.seq (.rg [o1 36 (.idx .nil),
    o1 37 (.load 3 [] 2 (.t 36) 1 false),
    o1 38 (.len 37),
    o1 39 (.data (.bin .eql) [.t 38, .c (.int .i64 (1))]),
    o1 4 (.copy 39)])
  .ret)
  (.seq (.rg [o1 41 (.data (.bin .eql) [.t 32, .c (.int .i64 (3))]),
    o1 40 (.copy 41)])
  (.cond (.t 40)
   (.seq (.join [⟨4, [.b], false⟩] 9002801208229904 none (.rg [o1 42 (.idx .nil),
     o1 43 (.load 3 [] 2 (.t 42) 1 false),
     o1 44 (.len 43),
     o1 45 (.data (.bin .eql) [.t 44, .c (.int .i64 (0))]),
     o1 46 (.copy 45),
     o2 47 (.idx .nil) 4 true,
     o2 48 (.load 3 [] 3 (.t 47) 1 false) 4 true,
     o2 49 (.copy 0) 4 true,
     o2 50 (.data (.bin .sub) [.t 49, .c (.int .i64 (1))]) 4 true,
     ⟨false, [], [], .call 1 101 [.t 48, .c [.i .i64] [.int .i64 (0)], .t 50] .no, [51], (some 51), some (4, true)⟩,
     ⟨false, [], [], .pick 46 (.t 51) (.c (.bool false)), [52], (some 52), none⟩,
     o1 4 (.copy 52)]))
   .ret)
   (.seq (.rg [o1 54 (.data (.bin .eql) [.t 32, .c (.int .i64 (4))]),
     o1 53 (.copy 54)])
   (.cond (.t 53)
    (.seq (.rg [o1 55 (.idx .nil),
      o1 56 (.load 3 [] 2 (.t 55) 1 false),
      o1 57 (.len 56),
      o1 58 (.data (.bin .gtr) [.t 57, .c (.int .i64 (0))]),
      o1 4 (.copy 58)])
    .ret)
    .skip)))))))))
 (.seq (.rg [o1 4 (.lit [.b] [.bool false])])
 .ret))))
def s_iOrderOk : Sig := ⟨[.rd false [.d], .rd true [.d, .d, .sl (.own none) [.d, .d], .d]], (.one false [.d])⟩
noncomputable def E_iOrderOk : TEnv := envOf [(101, p_iin), (232, p_iedgesOk)]
noncomputable def f_iOrderOk (n : Nat) : Int × (Int × Int × List (Int × Int) × Int) → Option ((Bool) × Unit) := runFn n E_iOrderOk c_iOrderOk [[.i .i64], [.i .i64, .i .i64, .sl [.i .i64, .i .i64], .i .i64]] [.b] [] [4] .no
noncomputable def g_iOrderOk := f_iOrderOk BIG
noncomputable def p_iOrderOk : TSp := ⟨s_iOrderOk, [[.i .i64], [.i .i64, .i .i64, .sl [.i .i64, .i .i64], .i .i64]], [.b], [], Ou.j .no, g_iOrderOk⟩
theorem k_iOrderOk : chkW PG E_iOrderOk 241 s_iOrderOk (c_iOrderOk.ht 59) .no = some (c_iOrderOk.wc E_iOrderOk, [4]) := by kernel_rfl
theorem ok_iOrderOk : p_iOrderOk.Ok PG 241 := mkOk (env_cons ok_iin (env_cons ok_iedgesOk (env_nil PG))) k_iOrderOk (by kernel_rfl)
theorem e_iOrderOk (n : Nat) (a0 : Int) (a1 : Int × Int × List (Int × Int) × Int) : f_iOrderOk n (a0, a1) =
  Option.bind (Option.bind (g_iin (a0, (1 : Int), (12 : Int))) fun r0 =>
   bif !r0.1 then
    some true
   else Option.bind (g_iin (a1.1, (1 : Int), (100000 : Int))) fun r1 =>
   bif !r1.1 then
    some true
   else Option.bind (g_iedgesOk (a0, a1.2.2.1)) fun r2 =>
   bif !r2.1 then
    some true
   else bif !decide (a1.2.2.2 = (0 : Int)) then
    some (!decide (a1.2.1 = (3 : Int)))
   else some false : Option (Bool)) fun x3 =>
  bif x3 then
   some (false, ())
  else Option.bind (Option.bind (bif decide (a1.2.1 = (1 : Int)) then
     some true
    else some (decide (a1.2.1 = (2 : Int))) : Option (Bool)) fun x4 =>
   bif x4 then
    some (Sum.inr (decide ((a1.2.2.1.length : Int) = (1 : Int))))
   else bif decide (a1.2.1 = (3 : Int)) then
    Option.bind (bif decide ((a1.2.2.1.length : Int) = (0 : Int)) then
      Option.bind (g_iin (a1.2.2.2, (0 : Int), IntKind.wrap .i64 (a0 - (1 : Int)))) fun r5 =>
      some r5.1
     else some false : Option (Bool)) fun x6 =>
    some (Sum.inr x6)
   else bif decide (a1.2.1 = (4 : Int)) then
    some (Sum.inr (decide ((0 : Int) < (a1.2.2.1.length : Int))))
   else some (Sum.inl ()) : Option ((Unit) ⊕ (Bool))) fun y => match y with
  | .inl x7 =>
   some (false, ())
  | .inr x7 =>
   some (x7, ()) := by kernel_rfl
/- impl.ReadOrder -/
def c_iReadOrder : TC :=
 (.seq (.rg [⟨false, [], [], .det 2 (.a (.c [.i .i64, .i .i64, .sl [.i .i64, .i .i64], .i .i64] [.int .i64 (0), .int .i64 (0), .slice none 0 0, .int .i64 (0)])), [4, 1000000001], (some 4), none⟩,
   o1 5 (.lit [.b] [.bool false])])
 (.seq (.rg [o1 8 (.copy 1),
   o1 9 (.build [.s, .i .i64, .b] [(0, .t 8)]),
   o1 10 (.a (.t 9)),
   o1 6 (.p0)])
 (.seq (.rg [⟨false, [], [], .det 2 (.a (.c [.i .i64, .i .i64, .sl [.i .i64, .i .i64], .i .i64] [.int .i64 (0), .int .i64 (0), .slice none 0 0, .int .i64 (0)])), [7, 1000000001], (some 7), none⟩])
 (.seq (.rg [o1 11 (.same 6),
   ⟨false, [], [], .call 2 268 [.t 10] (.mp 0), [12, 10], (some 12), none⟩,
   o1 13 (.idx .nil),
   o4 1 [7] (.store 7 [] 0 (.t 13) (.t 12))])
 (.seq (.rg [o1 14 (.same 6),
   ⟨false, [], [], .call 2 267 [.t 10] (.mp 0), [15, 10], (some 15), none⟩,
   o1 16 (.idx .nil),
   o4 1 [7] (.store 7 [] 1 (.t 16) (.t 15))])
 (.seq (.rg [o1 17 (.same 6),
   ⟨false, [], [], .call 2 268 [.t 10] (.mp 0), [18, 10], (some 18), none⟩,
   o1 19 (.idx .nil),
   o4 1 [7] (.store 7 [] 3 (.t 19) (.t 18))])
 (.seq (.rg [o1 20 (.same 6),
   ⟨false, [], [], .call 2 323 [.t 10] (.mp 0), [21, 10], (some 21), none⟩,
   o1 22 (.idx .nil),
   o4 2 [7, 21] (.store 7 [] 2 (.t 22) (.t 21))])
 (.seq (.seq (.join [⟨31, [.b], false⟩] 4286579712 none (.rg [o1 23 (.same 6),
   ⟨false, [], [], .call 2 273 [.t 10] (.mp 0), [24, 10], (some 24), none⟩,
   o1 25 (.data .not [.t 24]),
   o1 26 (.copy 25),
   o2 27 (.copy 0) 3 false,
   o2 28 (.load 7 [] 0 .nil 4 true) 3 false,
   ⟨false, [], [], .call 1 241 [.t 27, .t 28] .no, [29], (some 29), some (3, false)⟩,
   o2 30 (.data .not [.t 29]) 3 false,
   ⟨false, [], [], .pick 26 (.c (.bool true)) (.t 30), [31], (some 31), none⟩]))
 (.cond (.t 31)
  (.seq (.rg [o1 32 (.build [.i .i64, .i .i64, .sl [.i .i64, .i .i64], .i .i64] []),
    o4 2 [4, 32] (.store 4 [] 0 .nil (.t 32)),
    o1 5 (.lit [.b] [.bool false])])
  .ret)
  .skip))
 (.seq (.rg [o1 33 (.load 7 [] 0 .nil 4 true),
   ⟨false, [33], [], .det 2 (.store 4 [] 0 .nil (.t 33)), [4, 33, 33, 7], none, none⟩,
   o1 5 (.lit [.b] [.bool true])])
 .ret)))))))))
def s_iReadOrder : Sig := ⟨[.rd false [.d], .rd false [.d]], (.tup [(true, 4), (false, 1)] [.d, .d, .sl (.own none) [.d, .d], .d, .d])⟩
noncomputable def E_iReadOrder : TEnv := envOf [(268, p_ireader_num), (267, p_ireader_one), (323, p_ireader_edges), (273, p_ireader_ends), (241, p_iOrderOk)]
noncomputable def f_iReadOrder (n : Nat) : Int × ByteArray → Option ((Int × Int × List (Int × Int) × Int × Bool) × Unit) := runFn n E_iReadOrder c_iReadOrder [[.i .i64], [.s]] [.i .i64, .i .i64, .sl [.i .i64, .i .i64], .i .i64, .b] [] [4, 5] .no
noncomputable def g_iReadOrder := f_iReadOrder BIG
noncomputable def p_iReadOrder : TSp := ⟨s_iReadOrder, [[.i .i64], [.s]], [.i .i64, .i .i64, .sl [.i .i64, .i .i64], .i .i64, .b], [], Ou.j .no, g_iReadOrder⟩
theorem k_iReadOrder : chkW PG E_iReadOrder 271 s_iReadOrder (c_iReadOrder.ht 34) .no = some (c_iReadOrder.wc E_iReadOrder, [4, 5]) := by kernel_rfl
theorem ok_iReadOrder : p_iReadOrder.Ok PG 271 := mkOk (env_cons ok_ireader_num (env_cons ok_ireader_one (env_cons ok_ireader_edges (env_cons ok_ireader_ends (env_cons ok_iOrderOk (env_nil PG)))))) k_iReadOrder (by kernel_rfl)
theorem e_iReadOrder (n : Nat) (a0 : Int) (a1 : ByteArray) : f_iReadOrder n (a0, a1) =
  Option.bind (g_ireader_num (a1, (0 : Int), false)) fun r0 =>
  Option.bind (g_ireader_one r0.2) fun r1 =>
  Option.bind (g_ireader_num r1.2) fun r2 =>
  Option.bind (g_ireader_edges r2.2) fun r3 =>
  Option.bind (Option.bind (g_ireader_ends r3.2) fun r4 =>
   bif !r4.1 then
    some true
   else Option.bind (g_iOrderOk (a0, (r0.1, r1.1, r3.1, r2.1))) fun r5 =>
   some !r5.1 : Option (Bool)) fun x6 =>
  bif x6 then
   some (((0 : Int), (0 : Int), [], (0 : Int), false), ())
  else some ((r0.1, r1.1, r3.1, r2.1, true), ()) := by kernel_rfl
/- impl.noAnswer -/
def c_inoAnswer : TC :=
 (.seq (.rg [o1 1 (.a (.t 0)),
   o1 2 (.lit [.b] [.bool false])])
 (.seq (.join [⟨2, [.b], false⟩] 8388604 none (.rg [o1 3 (.idx .nil),
   o1 4 (.load 1 [] 0 (.t 3) 1 false),
   o1 5 (.data (.bin .eql) [.t 4, .c (.int .i64 (0))]),
   o1 6 (.copy 5),
   o2 7 (.idx .nil) 3 true,
   o2 8 (.load 1 [] 1 (.t 7) 1 false) 3 true,
   o2 9 (.data .not [.t 8]) 3 true,
   ⟨false, [], [], .pick 6 (.t 9) (.c (.bool false)), [10], (some 10), none⟩,
   o1 11 (.copy 10),
   o2 12 (.idx .nil) 8 true,
   o2 13 (.load 1 [] 2 (.t 12) 1 false) 8 true,
   o2 14 (.len 13) 8 true,
   o2 15 (.data (.bin .eql) [.t 14, .c (.int .i64 (0))]) 8 true,
   ⟨false, [], [], .pick 11 (.t 15) (.c (.bool false)), [16], (some 16), none⟩,
   o1 17 (.copy 16),
   o2 18 (.idx .nil) 14 true,
   o2 19 (.load 1 [] 3 (.t 18) 1 false) 14 true,
   o2 20 (.len 19) 14 true,
   o2 21 (.data (.bin .eql) [.t 20, .c (.int .i64 (0))]) 14 true,
   ⟨false, [], [], .pick 17 (.t 21) (.c (.bool false)), [22], (some 22), none⟩,
   o1 2 (.copy 22)]))
 .ret))
def s_inoAnswer : Sig := ⟨[.rd true [.d, .d, .sl (.own none) [.d, .d], .sl (.own none) [.d]]], (.one false [.d])⟩
noncomputable def E_inoAnswer : TEnv := envOf []
noncomputable def f_inoAnswer (n : Nat) : (Int × Bool × List (Int × Int) × List (Int)) → Option ((Bool) × Unit) := runFn n E_inoAnswer c_inoAnswer [[.i .i64, .b, .sl [.i .i64, .i .i64], .sl [.i .i64]]] [.b] [] [2] .no
noncomputable def g_inoAnswer := f_inoAnswer BIG
noncomputable def p_inoAnswer : TSp := ⟨s_inoAnswer, [[.i .i64, .b, .sl [.i .i64, .i .i64], .sl [.i .i64]]], [.b], [], Ou.j .no, g_inoAnswer⟩
theorem k_inoAnswer : chkW PG E_inoAnswer 135 s_inoAnswer (c_inoAnswer.ht 23) .no = some (c_inoAnswer.wc E_inoAnswer, [2]) := by kernel_rfl
theorem ok_inoAnswer : p_inoAnswer.Ok PG 135 := mkOk (env_nil PG) k_inoAnswer (by kernel_rfl)
theorem e_inoAnswer (n : Nat) (a0 : Int × Bool × List (Int × Int) × List (Int)) : f_inoAnswer n a0 =
  Option.bind (bif decide (a0.1 = (0 : Int)) then
    bif !a0.2.1 then
     bif decide ((a0.2.2.1.length : Int) = (0 : Int)) then
      some (decide ((a0.2.2.2.length : Int) = (0 : Int)))
     else some false
    else some false
   else some false : Option (Bool)) fun x0 =>
  some (x0, ()) := by kernel_rfl
/- impl.noOrder -/
def c_inoOrder : TC :=
 (.seq (.rg [o1 1 (.a (.t 0)),
   o1 2 (.lit [.b] [.bool false])])
 (.seq (.join [⟨2, [.b], false⟩] 4194300 none (.rg [o1 3 (.idx .nil),
   o1 4 (.load 1 [] 0 (.t 3) 1 false),
   o1 5 (.data (.bin .eql) [.t 4, .c (.int .i64 (0))]),
   o1 6 (.copy 5),
   o2 7 (.idx .nil) 3 true,
   o2 8 (.load 1 [] 1 (.t 7) 1 false) 3 true,
   o2 9 (.data (.bin .eql) [.t 8, .c (.int .i64 (0))]) 3 true,
   ⟨false, [], [], .pick 6 (.t 9) (.c (.bool false)), [10], (some 10), none⟩,
   o1 11 (.copy 10),
   o2 12 (.idx .nil) 8 true,
   o2 13 (.load 1 [] 2 (.t 12) 1 false) 8 true,
   o2 14 (.len 13) 8 true,
   o2 15 (.data (.bin .eql) [.t 14, .c (.int .i64 (0))]) 8 true,
   ⟨false, [], [], .pick 11 (.t 15) (.c (.bool false)), [16], (some 16), none⟩,
   o1 17 (.copy 16),
   o2 18 (.idx .nil) 14 true,
   o2 19 (.load 1 [] 3 (.t 18) 1 false) 14 true,
   o2 20 (.data (.bin .eql) [.t 19, .c (.int .i64 (0))]) 14 true,
   ⟨false, [], [], .pick 17 (.t 20) (.c (.bool false)), [21], (some 21), none⟩,
   o1 2 (.copy 21)]))
 .ret))
def s_inoOrder : Sig := ⟨[.rd true [.d, .d, .sl (.own none) [.d, .d], .d]], (.one false [.d])⟩
noncomputable def E_inoOrder : TEnv := envOf []
noncomputable def f_inoOrder (n : Nat) : (Int × Int × List (Int × Int) × Int) → Option ((Bool) × Unit) := runFn n E_inoOrder c_inoOrder [[.i .i64, .i .i64, .sl [.i .i64, .i .i64], .i .i64]] [.b] [] [2] .no
noncomputable def g_inoOrder := f_inoOrder BIG
noncomputable def p_inoOrder : TSp := ⟨s_inoOrder, [[.i .i64, .i .i64, .sl [.i .i64, .i .i64], .i .i64]], [.b], [], Ou.j .no, g_inoOrder⟩
theorem k_inoOrder : chkW PG E_inoOrder 325 s_inoOrder (c_inoOrder.ht 22) .no = some (c_inoOrder.wc E_inoOrder, [2]) := by kernel_rfl
theorem ok_inoOrder : p_inoOrder.Ok PG 325 := mkOk (env_nil PG) k_inoOrder (by kernel_rfl)
theorem e_inoOrder (n : Nat) (a0 : Int × Int × List (Int × Int) × Int) : f_inoOrder n a0 =
  Option.bind (bif decide (a0.1 = (0 : Int)) then
    bif decide (a0.2.1 = (0 : Int)) then
     bif decide ((a0.2.2.1.length : Int) = (0 : Int)) then
      some (decide (a0.2.2.2 = (0 : Int)))
     else some false
    else some false
   else some false : Option (Bool)) fun x0 =>
  some (x0, ()) := by kernel_rfl
/- impl.askText -/
def c_iaskText : TC :=
 (.seq (.rg [o1 1 (.a (.t 0)),
   o1 2 (.lit [.s] [.string ⟨#[]⟩]),
   o1 3 (.lit [.b] [.bool false])])
 (.seq (.rg [o1 4 (.lit [.s] [.string ⟨#[]⟩])])
 (.seq (.join [⟨4, [.s], false⟩] 34359738332 (some [⟨2, [.s], false⟩, ⟨3, [.b], false⟩]) (.seq (.rg [o1 9 (.idx .nil),
   o1 10 (.load 1 [] 0 (.t 9) 1 false),
   o1 11 (.idx .nil),
   o1 12 (.load 1 [] 1 (.t 11) 1 false),
   o1 13 (.idx .nil),
   o1 14 (.load 1 [] 2 (.t 13) 1 false),
   o1 15 (.idx .nil),
   o1 16 (.load 1 [] 3 (.t 15) 1 false),
   o1 17 (.sli [.i .i64] [.t 10, .t 12, .t 14, .t 16]),
   o1 18 (.len 17),
   o1 19 (.lit [.i .i64] [.int .i64 (0)])])
 (.block 0 (.loop [⟨4, [.s], false⟩, ⟨19, [.i .i64], false⟩] 34359214556
  (.seq (.rg [o1 20 (.data (.bin .lss) [.t 19, .t 18])])
  (.seq (.cond (.t 20)
   .skip
   (.exit 0))
  (.seq (.block 1 (.seq (.rg [o1 21 (.index 17 (.t 19)),
    o1 22 (.load 17 [(0, 1)] 0 (.t 21) 1 false),
    o1 6 (.copy 22)])
  (.seq (.seq (.rg [o1 23 (.copy 6),
    o3 24 101 [.t 23, .c [.i .i64] [.int .i64 (0)], .c [.i .i64] [.int .i64 (100000)]],
    o1 25 (.data .not [.t 24])])
  (.cond (.t 25)
   (.seq (.rg [o1 2 (.lit [.s] [.string ⟨#[]⟩]),
     o1 3 (.lit [.b] [.bool false])])
   .ret)
   .skip))
  (.seq (.rg [o1 27 (.copy 6),
    o3 28 321 [.t 27],
    ⟨false, [], [], .det 2 (.copy 28), [26, 28], (some 26), none⟩,
    o1 29 (.ext 26 0 1),
    o1 30 (.ext 26 1 1),
    o1 7 (.copy 29),
    o1 8 (.copy 30)])
  (.rg [o1 31 (.copy 4),
    o1 32 (.copy 7),
    o1 33 (.data (.bin .add) [.t 31, .t 32]),
    o1 4 (.copy 33)])))))
  (.rg [o1 34 (.data (.bin .add) [.t 19, .c (.int .i64 (1))]),
    o1 19 (.copy 34)]))))))))
 (.seq (.rg [o1 35 (.copy 4),
   o1 2 (.copy 35),
   o1 3 (.lit [.b] [.bool true])])
 .ret))))
def s_iaskText : Sig := ⟨[.rd true [.d, .d, .d, .d]], (.tup [(false, 1), (false, 1)] [.d, .d])⟩
noncomputable def E_iaskText : TEnv := envOf [(101, p_iin), (321, p_iVarText)]
noncomputable def f_iaskText (n : Nat) : (Int × Int × Int × Int) → Option ((ByteArray × Bool) × Unit) := runFn n E_iaskText c_iaskText [[.i .i64, .i .i64, .i .i64, .i .i64]] [.s, .b] [] [2, 3] .no
noncomputable def g_iaskText := f_iaskText BIG
noncomputable def p_iaskText : TSp := ⟨s_iaskText, [[.i .i64, .i .i64, .i .i64, .i .i64]], [.s, .b], [], Ou.j .no, g_iaskText⟩
theorem k_iaskText : chkW PG E_iaskText 326 s_iaskText (c_iaskText.ht 36) .no = some (c_iaskText.wc E_iaskText, [2, 3]) := by kernel_rfl
theorem ok_iaskText : p_iaskText.Ok PG 326 := mkOk (env_cons ok_iin (env_cons ok_iVarText (env_nil PG))) k_iaskText (by kernel_rfl)
theorem e_iaskText (n : Nat) (a0 : Int × Int × Int × Int) : f_iaskText n a0 =
  Option.bind (loopT n (X := ByteArray × Int) (B := (ByteArray) ⊕ (ByteArray × Bool)) (fun self1 x0 =>
    bif decide (x0.2 < (([a0.1, a0.2.1, a0.2.2.1, a0.2.2.2]).length : Int)) then
     bnd ([a0.1, a0.2.1, a0.2.2.1, a0.2.2.2]).length x0.2 fun n2 =>
     Option.bind ([a0.1, a0.2.1, a0.2.2.1, a0.2.2.2])[n2]? fun y3 =>
     Option.bind (g_iin (y3, (0 : Int), (100000 : Int))) fun r4 =>
     bif !r4.1 then
      some (Sum.inr ((ByteArray.mk #[]), false))
     else Option.bind (g_iVarText y3) fun r5 =>
     bif decide (x0.1.size + r5.1.1.size ≤ 4611686018427387904) then
      self1 (x0.1 ++ r5.1.1, IntKind.wrap .i64 (x0.2 + (1 : Int)))
     else none
    else some (Sum.inl x0.1)) ((ByteArray.mk #[]), (0 : Int)) : Option ((ByteArray) ⊕ (ByteArray × Bool))) fun y => match y with
  | .inl x6 =>
   some ((x6, true), ())
  | .inr x6 =>
   some (x6, ()) := by kernel_rfl
/- impl.edgesText -/
def c_iedgesText : TC :=
 (.seq (.rg [o1 2 (.lit [.s] [.string ⟨#[]⟩])])
 (.seq (.rg [o1 8 (.copy 0),
   o1 9 (.len 8),
   o3 10 321 [.t 9],
   ⟨false, [], [], .det 2 (.copy 10), [7, 10], (some 7), none⟩,
   o1 11 (.ext 7 0 1),
   o1 12 (.ext 7 1 1),
   o1 3 (.copy 11),
   o1 4 (.copy 12)])
 (.seq (.join [⟨3, [.s], false⟩] 1073733704 none (.seq (.rg [o1 13 (.copy 0),
   o1 14 (.len 13),
   o1 15 (.lit [.i .i64] [.int .i64 (0)])])
 (.block 0 (.loop [⟨3, [.s], false⟩, ⟨15, [.i .i64], false⟩] 1073709128
  (.seq (.rg [o1 16 (.data (.bin .lss) [.t 15, .t 14])])
  (.seq (.cond (.t 16)
   .skip
   (.exit 0))
  (.seq (.block 1 (.seq (.rg [o1 17 (.index 13 (.t 15)),
    o1 18 (.load 13 [(0, 2)] 0 (.t 17) 2 false),
    ⟨false, [], [], .det 2 (.a (.c [.i .i64, .i .i64] [.int .i64 (0), .int .i64 (0)])), [6, 1000000001], (some 6), none⟩,
    o4 1 [6] (.store 6 [] 0 .nil (.t 18))])
  (.rg [o1 19 (.copy 3),
    o1 20 (.idx .nil),
    o1 21 (.load 6 [] 0 (.t 20) 1 false),
    o1 22 (.data (.conv .u8) [.t 21]),
    o1 23 (.idx .nil),
    o1 24 (.load 6 [] 1 (.t 23) 1 false),
    o1 25 (.data (.conv .u8) [.t 24]),
    o1 26 (.sli [.i .u8] [.t 22, .t 25]),
    o1 27 (.bytes 26),
    o1 28 (.data (.bin .add) [.t 19, .t 27]),
    o1 3 (.copy 28)])))
  (.rg [o1 29 (.data (.bin .add) [.t 15, .c (.int .i64 (1))]),
    o1 15 (.copy 29)]))))))))
 (.seq (.rg [o1 30 (.copy 3),
   o1 2 (.copy 30)])
 .ret))))
def s_iedgesText : Sig := ⟨[.rd false [.sl (.own none) [.d, .d]]], (.one false [.d])⟩
noncomputable def E_iedgesText : TEnv := envOf [(321, p_iVarText)]
noncomputable def f_iedgesText (n : Nat) : (List (Int × Int)) → Option ((ByteArray) × Unit) := runFn n E_iedgesText c_iedgesText [[.sl [.i .i64, .i .i64]]] [.s] [] [2] .no
noncomputable def g_iedgesText := f_iedgesText BIG
noncomputable def p_iedgesText : TSp := ⟨s_iedgesText, [[.sl [.i .i64, .i .i64]]], [.s], [], Ou.j .no, g_iedgesText⟩
theorem k_iedgesText : chkW PG E_iedgesText 338 s_iedgesText (c_iedgesText.ht 31) .no = some (c_iedgesText.wc E_iedgesText, [2]) := by kernel_rfl
theorem ok_iedgesText : p_iedgesText.Ok PG 338 := mkOk (env_cons ok_iVarText (env_nil PG)) k_iedgesText (by kernel_rfl)
theorem e_iedgesText (n : Nat) (a0 : List (Int × Int)) : f_iedgesText n a0 =
  Option.bind (g_iVarText (a0.length : Int)) fun r0 =>
  Option.bind (loopT n (X := ByteArray × Int) (B := ByteArray) (fun self2 x1 =>
    bif decide (x1.2 < (a0.length : Int)) then
     bnd a0.length x1.2 fun n3 =>
     Option.bind a0[n3]? fun y4 =>
     bif decide (x1.1.size + (bytesStr ([IntKind.wrap .u8 (y4.1), IntKind.wrap .u8 (y4.2)])).size ≤ 4611686018427387904) then
      self2 (x1.1 ++ (bytesStr ([IntKind.wrap .u8 (y4.1), IntKind.wrap .u8 (y4.2)])), IntKind.wrap .i64 (x1.2 + (1 : Int)))
     else none
    else some x1.1) (r0.1.1, (0 : Int)) : Option (ByteArray)) fun x5 =>
  some (x5, ()) := by kernel_rfl
/- impl.AnswerText -/
def c_iAnswerText : TC :=
 (.seq (.rg [o1 3 (.a (.t 1)),
   o1 4 (.lit [.s] [.string ⟨#[]⟩]),
   o1 5 (.lit [.b] [.bool false])])
 (.seq (.seq (.rg [o1 12 (.copy 0),
   o1 13 (.load 3 [] 0 .nil 4 false),
   o3 14 136 [.t 12, .t 13],
   o1 15 (.data .not [.t 14])])
 (.cond (.t 15)
  (.seq (.rg [o1 4 (.lit [.s] [.string ⟨#[]⟩]),
    o1 5 (.lit [.b] [.bool false])])
  .ret)
  .skip))
 (.seq (.rg [o1 17 (.idx .nil),
   o1 18 (.load 3 [] 0 (.t 17) 1 false),
   o3 19 321 [.t 18],
   ⟨false, [], [], .det 2 (.copy 19), [16, 19], (some 16), none⟩,
   o1 20 (.ext 16 0 1),
   o1 21 (.ext 16 1 1),
   o1 6 (.copy 20),
   o1 7 (.copy 21)])
 (.seq (.rg [o1 8 (.lit [.s] [.string ⟨#[0]⟩])])
 (.seq (.join [⟨8, [.s], false⟩] 12583168 none (.seq (.rg [o1 22 (.idx .nil),
   o1 23 (.load 3 [] 1 (.t 22) 1 false)])
 (.cond (.t 23)
  (.rg [o1 8 (.lit [.s] [.string ⟨#[1]⟩])])
  .skip)))
 (.seq (.rg [o1 24 (.copy 6),
   o1 25 (.copy 8),
   o1 26 (.data (.bin .add) [.t 24, .t 25]),
   o1 27 (.idx .nil),
   o1 28 (.load 3 [] 2 (.t 27) 1 false),
   o3 29 338 [.t 28],
   o1 30 (.data (.bin .add) [.t 26, .t 29]),
   o1 9 (.copy 30)])
 (.seq (.join [⟨9, [.s], false⟩] 35182224607744 none (.seq (.rg [o1 31 (.idx .nil),
   o1 32 (.load 3 [] 3 (.t 31) 1 false),
   o1 33 (.len 32),
   o1 34 (.lit [.i .i64] [.int .i64 (0)])])
 (.block 0 (.loop [⟨9, [.s], false⟩, ⟨34, [.i .i64], false⟩] 35167192222208
  (.seq (.rg [o1 35 (.data (.bin .lss) [.t 34, .t 33])])
  (.seq (.cond (.t 35)
   .skip
   (.exit 0))
  (.seq (.block 1 (.seq (.rg [o1 36 (.index 32 (.t 34)),
    o1 37 (.load 32 [(0, 1)] 0 (.t 36) 1 false),
    o1 11 (.copy 37)])
  (.rg [o1 38 (.copy 9),
    o1 39 (.copy 11),
    o1 40 (.data (.conv .u8) [.t 39]),
    o1 41 (.sli [.i .u8] [.t 40]),
    o1 42 (.bytes 41),
    o1 43 (.data (.bin .add) [.t 38, .t 42]),
    o1 9 (.copy 43)])))
  (.rg [o1 44 (.data (.bin .add) [.t 34, .c (.int .i64 (1))]),
    o1 34 (.copy 44)]))))))))
 (.seq (.rg [o1 45 (.copy 9),
   o1 4 (.copy 45),
   o1 5 (.lit [.b] [.bool true])])
 .ret))))))))
def s_iAnswerText : Sig := ⟨[.rd false [.d], .rd true [.d, .d, .sl (.own none) [.d, .d], .sl (.own none) [.d]]], (.tup [(false, 1), (false, 1)] [.d, .d])⟩
noncomputable def E_iAnswerText : TEnv := envOf [(136, p_iAnswerOk), (321, p_iVarText), (338, p_iedgesText)]
noncomputable def f_iAnswerText (n : Nat) : Int × (Int × Bool × List (Int × Int) × List (Int)) → Option ((ByteArray × Bool) × Unit) := runFn n E_iAnswerText c_iAnswerText [[.i .i64], [.i .i64, .b, .sl [.i .i64, .i .i64], .sl [.i .i64]]] [.s, .b] [] [4, 5] .no
noncomputable def g_iAnswerText := f_iAnswerText BIG
noncomputable def p_iAnswerText : TSp := ⟨s_iAnswerText, [[.i .i64], [.i .i64, .b, .sl [.i .i64, .i .i64], .sl [.i .i64]]], [.s, .b], [], Ou.j .no, g_iAnswerText⟩
theorem k_iAnswerText : chkW PG E_iAnswerText 327 s_iAnswerText (c_iAnswerText.ht 46) .no = some (c_iAnswerText.wc E_iAnswerText, [4, 5]) := by kernel_rfl
theorem ok_iAnswerText : p_iAnswerText.Ok PG 327 := mkOk (env_cons ok_iAnswerOk (env_cons ok_iVarText (env_cons ok_iedgesText (env_nil PG)))) k_iAnswerText (by kernel_rfl)
theorem e_iAnswerText (n : Nat) (a0 : Int) (a1 : Int × Bool × List (Int × Int) × List (Int)) : f_iAnswerText n (a0, a1) =
  Option.bind (g_iAnswerOk (a0, a1)) fun r0 =>
  bif !r0.1 then
   some (((ByteArray.mk #[]), false), ())
  else Option.bind (g_iVarText a1.1) fun r1 =>
  Option.bind (bif a1.2.1 then
    some (ByteArray.mk #[1])
   else some (ByteArray.mk #[0]) : Option (ByteArray)) fun x2 =>
  bif decide (r1.1.1.size + x2.size ≤ 4611686018427387904) then
   Option.bind (g_iedgesText a1.2.2.1) fun r3 =>
   bif decide ((r1.1.1 ++ x2).size + r3.1.size ≤ 4611686018427387904) then
    Option.bind (loopT n (X := ByteArray × Int) (B := ByteArray) (fun self5 x4 =>
      bif decide (x4.2 < (a1.2.2.2.length : Int)) then
       bnd a1.2.2.2.length x4.2 fun n6 =>
       Option.bind a1.2.2.2[n6]? fun y7 =>
       bif decide (x4.1.size + (bytesStr ([IntKind.wrap .u8 (y7)])).size ≤ 4611686018427387904) then
        self5 (x4.1 ++ (bytesStr ([IntKind.wrap .u8 (y7)])), IntKind.wrap .i64 (x4.2 + (1 : Int)))
       else none
      else some x4.1) ((r1.1.1 ++ x2) ++ r3.1, (0 : Int)) : Option (ByteArray)) fun x8 =>
    some ((x8, true), ())
   else none
  else none := by kernel_rfl
/- impl.ShortText -/
def c_iShortText : TC :=
 (.seq (.rg [o1 2 (.lit [.s] [.string ⟨#[]⟩]),
   o1 3 (.lit [.b] [.bool false])])
 (.seq (.seq (.rg [o1 6 (.copy 0),
   o1 7 (.data .slen [.t 6]),
   o1 8 (.data (.bin .gtr) [.t 7, .c (.int .i64 (20000))])])
 (.cond (.t 8)
  (.seq (.rg [o1 2 (.lit [.s] [.string ⟨#[]⟩]),
    o1 3 (.lit [.b] [.bool false])])
  .ret)
  .skip))
 (.seq (.rg [o1 10 (.copy 0),
   o1 11 (.data .slen [.t 10]),
   o3 12 321 [.t 11],
   ⟨false, [], [], .det 2 (.copy 12), [9, 12], (some 9), none⟩,
   o1 13 (.ext 9 0 1),
   o1 14 (.ext 9 1 1),
   o1 4 (.copy 13),
   o1 5 (.copy 14)])
 (.seq (.rg [o1 15 (.copy 4),
   o1 16 (.copy 0),
   o1 17 (.data (.bin .add) [.t 15, .t 16]),
   o1 2 (.copy 17),
   o1 3 (.lit [.b] [.bool true])])
 .ret))))
def s_iShortText : Sig := ⟨[.rd false [.d]], (.tup [(false, 1), (false, 1)] [.d, .d])⟩
noncomputable def E_iShortText : TEnv := envOf [(321, p_iVarText)]
noncomputable def f_iShortText (n : Nat) : ByteArray → Option ((ByteArray × Bool) × Unit) := runFn n E_iShortText c_iShortText [[.s]] [.s, .b] [] [2, 3] .no
noncomputable def g_iShortText := f_iShortText BIG
noncomputable def p_iShortText : TSp := ⟨s_iShortText, [[.s]], [.s, .b], [], Ou.j .no, g_iShortText⟩
theorem k_iShortText : chkW PG E_iShortText 328 s_iShortText (c_iShortText.ht 18) .no = some (c_iShortText.wc E_iShortText, [2, 3]) := by kernel_rfl
theorem ok_iShortText : p_iShortText.Ok PG 328 := mkOk (env_cons ok_iVarText (env_nil PG)) k_iShortText (by kernel_rfl)
theorem e_iShortText (n : Nat) (a0 : ByteArray) : f_iShortText n a0 =
  bif decide ((20000 : Int) < (a0.size : Int)) then
   some (((ByteArray.mk #[]), false), ())
  else Option.bind (g_iVarText (a0.size : Int)) fun r0 =>
  bif decide (r0.1.1.size + a0.size ≤ 4611686018427387904) then
   some ((r0.1.1 ++ a0, true), ())
  else none := by kernel_rfl
/- impl.OrderText -/
def c_iOrderText : TC :=
 (.seq (.rg [o1 3 (.a (.t 1)),
   o1 4 (.lit [.s] [.string ⟨#[]⟩]),
   o1 5 (.lit [.b] [.bool false])])
 (.seq (.seq (.rg [o1 10 (.copy 0),
   o1 11 (.load 3 [] 0 .nil 4 false),
   o3 12 241 [.t 10, .t 11],
   o1 13 (.data .not [.t 12])])
 (.cond (.t 13)
  (.seq (.rg [o1 4 (.lit [.s] [.string ⟨#[]⟩]),
    o1 5 (.lit [.b] [.bool false])])
  .ret)
  .skip))
 (.seq (.rg [o1 15 (.idx .nil),
   o1 16 (.load 3 [] 0 (.t 15) 1 false),
   o3 17 321 [.t 16],
   ⟨false, [], [], .det 2 (.copy 17), [14, 17], (some 14), none⟩,
   o1 18 (.ext 14 0 1),
   o1 19 (.ext 14 1 1),
   o1 6 (.copy 18),
   o1 7 (.copy 19)])
 (.seq (.rg [o1 21 (.idx .nil),
   o1 22 (.load 3 [] 3 (.t 21) 1 false),
   o3 23 321 [.t 22],
   ⟨false, [], [], .det 2 (.copy 23), [20, 23], (some 20), none⟩,
   o1 24 (.ext 20 0 1),
   o1 25 (.ext 20 1 1),
   o1 8 (.copy 24),
   o1 9 (.copy 25)])
 (.seq (.rg [o1 26 (.copy 6),
   o1 27 (.idx .nil),
   o1 28 (.load 3 [] 1 (.t 27) 1 false),
   o1 29 (.data (.conv .u8) [.t 28]),
   o1 30 (.sli [.i .u8] [.t 29]),
   o1 31 (.bytes 30),
   o1 32 (.data (.bin .add) [.t 26, .t 31]),
   o1 33 (.copy 8),
   o1 34 (.data (.bin .add) [.t 32, .t 33]),
   o1 35 (.idx .nil),
   o1 36 (.load 3 [] 2 (.t 35) 1 false),
   o3 37 338 [.t 36],
   o1 38 (.data (.bin .add) [.t 34, .t 37]),
   o1 4 (.copy 38),
   o1 5 (.lit [.b] [.bool true])])
 .ret)))))
def s_iOrderText : Sig := ⟨[.rd false [.d], .rd true [.d, .d, .sl (.own none) [.d, .d], .d]], (.tup [(false, 1), (false, 1)] [.d, .d])⟩
noncomputable def E_iOrderText : TEnv := envOf [(241, p_iOrderOk), (321, p_iVarText), (338, p_iedgesText)]
noncomputable def f_iOrderText (n : Nat) : Int × (Int × Int × List (Int × Int) × Int) → Option ((ByteArray × Bool) × Unit) := runFn n E_iOrderText c_iOrderText [[.i .i64], [.i .i64, .i .i64, .sl [.i .i64, .i .i64], .i .i64]] [.s, .b] [] [4, 5] .no
noncomputable def g_iOrderText := f_iOrderText BIG
noncomputable def p_iOrderText : TSp := ⟨s_iOrderText, [[.i .i64], [.i .i64, .i .i64, .sl [.i .i64, .i .i64], .i .i64]], [.s, .b], [], Ou.j .no, g_iOrderText⟩
theorem k_iOrderText : chkW PG E_iOrderText 329 s_iOrderText (c_iOrderText.ht 39) .no = some (c_iOrderText.wc E_iOrderText, [4, 5]) := by kernel_rfl
theorem ok_iOrderText : p_iOrderText.Ok PG 329 := mkOk (env_cons ok_iOrderOk (env_cons ok_iVarText (env_cons ok_iedgesText (env_nil PG)))) k_iOrderText (by kernel_rfl)
theorem e_iOrderText (n : Nat) (a0 : Int) (a1 : Int × Int × List (Int × Int) × Int) : f_iOrderText n (a0, a1) =
  Option.bind (g_iOrderOk (a0, a1)) fun r0 =>
  bif !r0.1 then
   some (((ByteArray.mk #[]), false), ())
  else Option.bind (g_iVarText a1.1) fun r1 =>
  Option.bind (g_iVarText a1.2.2.2) fun r2 =>
  bif decide (r1.1.1.size + (bytesStr ([IntKind.wrap .u8 (a1.2.1)])).size ≤ 4611686018427387904) then
   bif decide ((r1.1.1 ++ (bytesStr ([IntKind.wrap .u8 (a1.2.1)]))).size + r2.1.1.size ≤ 4611686018427387904) then
    Option.bind (g_iedgesText a1.2.2.1) fun r3 =>
    bif decide (((r1.1.1 ++ (bytesStr ([IntKind.wrap .u8 (a1.2.1)]))) ++ r2.1.1).size + r3.1.size ≤ 4611686018427387904) then
     some ((((r1.1.1 ++ (bytesStr ([IntKind.wrap .u8 (a1.2.1)]))) ++ r2.1.1) ++ r3.1, true), ())
    else none
   else none
  else none := by kernel_rfl
/- impl.RecText -/
def c_iRecText : TC :=
 (.seq (.rg [o1 3 (.a (.t 1)),
   o1 4 (.lit [.s] [.string ⟨#[]⟩]),
   o1 5 (.lit [.b] [.bool false])])
 (.seq (.rg [o1 6 (.lit [.s] [.string ⟨#[]⟩]),
   o1 7 (.lit [.b] [.bool false])])
 (.seq (.join [⟨6, [.s], false⟩, ⟨7, [.b], false⟩] 664613997892457936451903530140172224 none (.block 0 (.seq (.join [⟨18, [.b], false⟩] 137438691328 none (.rg [o1 19 (.idx .nil),
   o1 20 (.load 3 [] 0 (.t 19) 1 false),
   o1 21 (.data (.bin .eql) [.t 20, .c (.int .i64 (1))]),
   o1 22 (.copy 21),
   o2 23 (.idx .nil) 3 true,
   o2 24 (.load 3 [] 5 (.t 23) 1 false) 3 true,
   o2 25 (.data (.bin .eql) [.t 24, .c (.int .i64 (0))]) 3 true,
   ⟨false, [], [], .pick 22 (.t 25) (.c (.bool false)), [26], (some 26), none⟩,
   o1 27 (.copy 26),
   o2 28 (.idx .nil) 8 true,
   o2 29 (.load 3 [] 6 (.t 28) 4 false) 8 true,
   ⟨false, [], [], .call 1 135 [.t 29] .no, [30], (some 30), some (8, true)⟩,
   ⟨false, [], [], .pick 27 (.t 30) (.c (.bool false)), [31], (some 31), none⟩,
   o1 32 (.copy 31),
   o2 33 (.idx .nil) 13 true,
   o2 34 (.load 3 [] 10 (.t 33) 4 false) 13 true,
   ⟨false, [], [], .call 1 325 [.t 34] .no, [35], (some 35), some (13, true)⟩,
   ⟨false, [], [], .pick 32 (.t 35) (.c (.bool false)), [36], (some 36), none⟩,
   o1 18 (.copy 36)]))
 (.cond (.t 18)
  (.rg [o1 38 (.idx .nil),
    o1 39 (.load 3 [] 1 (.t 38) 4 false),
    o3 40 326 [.t 39],
    ⟨false, [], [], .det 2 (.copy 40), [37, 40], (some 37), none⟩,
    o1 41 (.ext 37 0 1),
    o1 42 (.ext 37 1 1),
    o1 6 (.copy 41),
    o1 7 (.copy 42)])
  (.seq (.join [⟨43, [.b], false⟩] 9223363240761753600 none (.rg [o1 44 (.idx .nil),
    o1 45 (.load 3 [] 0 (.t 44) 1 false),
    o1 46 (.data (.bin .eql) [.t 45, .c (.int .i64 (2))]),
    o1 47 (.copy 46),
    o2 48 (.idx .nil) 3 true,
    o2 49 (.load 3 [] 1 (.t 48) 4 false) 3 true,
    o2 50 (.build [.i .i64, .i .i64, .i .i64, .i .i64] []) 3 true,
    o2 51 (.eqA [.i, .i, .i, .i] (.t 49) (.t 50) false) 3 true,
    ⟨false, [], [], .pick 47 (.t 51) (.c (.bool false)), [52], (some 52), none⟩,
    o1 53 (.copy 52),
    o2 54 (.idx .nil) 9 true,
    o2 55 (.load 3 [] 10 (.t 54) 4 false) 9 true,
    ⟨false, [], [], .call 1 325 [.t 55] .no, [56], (some 56), some (9, true)⟩,
    ⟨false, [], [], .pick 53 (.t 56) (.c (.bool false)), [57], (some 57), none⟩,
    o1 58 (.copy 57),
    o2 59 (.idx .nil) 14 true,
    o2 60 (.load 3 [] 5 (.t 59) 1 false) 14 true,
    ⟨false, [], [], .call 1 101 [.t 60, .c [.i .i64] [.int .i64 (0)], .c [.i .i64] [.int .i64 (100000)]] .no, [61], (some 61), some (14, true)⟩,
    ⟨false, [], [], .pick 58 (.t 61) (.c (.bool false)), [62], (some 62), none⟩,
    o1 43 (.copy 62)]))
  (.cond (.t 43)
   (.seq (.rg [o1 64 (.idx .nil),
     o1 65 (.load 3 [] 5 (.t 64) 1 false),
     o3 66 321 [.t 65],
     ⟨false, [], [], .det 2 (.copy 66), [63, 66], (some 63), none⟩,
     o1 67 (.ext 63 0 1),
     o1 68 (.ext 63 1 1),
     o1 8 (.copy 67),
     o1 9 (.copy 68)])
   (.seq (.rg [o1 70 (.copy 0),
     o1 71 (.idx .nil),
     o1 72 (.load 3 [] 6 (.t 71) 4 false),
     o3 73 327 [.t 70, .t 72],
     ⟨false, [], [], .det 2 (.copy 73), [69, 73], (some 69), none⟩,
     o1 74 (.ext 69 0 1),
     o1 75 (.ext 69 1 1),
     o1 10 (.copy 74),
     o1 11 (.copy 75)])
   (.seq (.rg [o1 77 (.copy 10),
     o3 78 328 [.t 77],
     ⟨false, [], [], .det 2 (.copy 78), [76, 78], (some 76), none⟩,
     o1 79 (.ext 76 0 1),
     o1 80 (.ext 76 1 1),
     o1 12 (.copy 79),
     o1 13 (.copy 80)])
   (.rg [o1 81 (.copy 8),
     o1 82 (.copy 12),
     o1 83 (.data (.bin .add) [.t 81, .t 82]),
     o1 84 (.copy 11),
     o1 6 (.copy 83),
     o1 7 (.copy 84)]))))
   (.seq (.join [⟨85, [.b], false⟩] 40564780521677113179760911974400 none (.rg [o1 86 (.idx .nil),
     o1 87 (.load 3 [] 0 (.t 86) 1 false),
     o1 88 (.data (.bin .eql) [.t 87, .c (.int .i64 (3))]),
     o1 89 (.copy 88),
     o2 90 (.idx .nil) 3 true,
     o2 91 (.load 3 [] 1 (.t 90) 4 false) 3 true,
     o2 92 (.build [.i .i64, .i .i64, .i .i64, .i .i64] []) 3 true,
     o2 93 (.eqA [.i, .i, .i, .i] (.t 91) (.t 92) false) 3 true,
     ⟨false, [], [], .pick 89 (.t 93) (.c (.bool false)), [94], (some 94), none⟩,
     o1 95 (.copy 94),
     o2 96 (.idx .nil) 9 true,
     o2 97 (.load 3 [] 5 (.t 96) 1 false) 9 true,
     o2 98 (.data (.bin .eql) [.t 97, .c (.int .i64 (0))]) 9 true,
     ⟨false, [], [], .pick 95 (.t 98) (.c (.bool false)), [99], (some 99), none⟩,
     o1 100 (.copy 99),
     o2 101 (.idx .nil) 14 true,
     o2 102 (.load 3 [] 6 (.t 101) 4 false) 14 true,
     ⟨false, [], [], .call 1 135 [.t 102] .no, [103], (some 103), some (14, true)⟩,
     ⟨false, [], [], .pick 100 (.t 103) (.c (.bool false)), [104], (some 104), none⟩,
     o1 85 (.copy 104)]))
   (.cond (.t 85)
    (.seq (.rg [o1 106 (.copy 0),
      o1 107 (.idx .nil),
      o1 108 (.load 3 [] 10 (.t 107) 4 false),
      o3 109 329 [.t 106, .t 108],
      ⟨false, [], [], .det 2 (.copy 109), [105, 109], (some 105), none⟩,
      o1 110 (.ext 105 0 1),
      o1 111 (.ext 105 1 1),
      o1 14 (.copy 110),
      o1 15 (.copy 111)])
    (.seq (.rg [o1 113 (.copy 14),
      o3 114 328 [.t 113],
      ⟨false, [], [], .det 2 (.copy 114), [112, 114], (some 112), none⟩,
      o1 115 (.ext 112 0 1),
      o1 116 (.ext 112 1 1),
      o1 16 (.copy 115),
      o1 17 (.copy 116)])
    (.rg [o1 117 (.copy 16),
      o1 118 (.copy 15),
      o1 6 (.copy 117),
      o1 7 (.copy 118)])))
    .skip))))))))
 (.seq (.seq (.rg [o1 119 (.copy 7),
   o1 120 (.data .not [.t 119])])
 (.cond (.t 120)
  (.seq (.rg [o1 4 (.lit [.s] [.string ⟨#[]⟩]),
    o1 5 (.lit [.b] [.bool false])])
  .ret)
  .skip))
 (.seq (.rg [o1 121 (.idx .nil),
   o1 122 (.load 3 [] 0 (.t 121) 1 false),
   o1 123 (.data (.conv .u8) [.t 122]),
   o1 124 (.sli [.i .u8] [.t 123]),
   o1 125 (.bytes 124),
   o1 126 (.copy 6),
   o1 127 (.data (.bin .add) [.t 125, .t 126]),
   o1 4 (.copy 127),
   o1 5 (.lit [.b] [.bool true])])
 .ret)))))
def s_iRecText : Sig := ⟨[.rd false [.d], .rd true [.d, .d, .d, .d, .d, .d, .d, .d, .sl (.own none) [.d, .d], .sl (.own none) [.d], .d, .d, .sl (.own none) [.d, .d], .d]], (.tup [(false, 1), (false, 1)] [.d, .d])⟩
noncomputable def E_iRecText : TEnv := envOf [(135, p_inoAnswer), (325, p_inoOrder), (326, p_iaskText), (101, p_iin), (321, p_iVarText), (327, p_iAnswerText), (328, p_iShortText), (329, p_iOrderText)]
noncomputable def f_iRecText (n : Nat) : Int × (Int × Int × Int × Int × Int × Int × Int × Bool × List (Int × Int) × List (Int) × Int × Int × List (Int × Int) × Int) → Option ((ByteArray × Bool) × Unit) := runFn n E_iRecText c_iRecText [[.i .i64], [.i .i64, .i .i64, .i .i64, .i .i64, .i .i64, .i .i64, .i .i64, .b, .sl [.i .i64, .i .i64], .sl [.i .i64], .i .i64, .i .i64, .sl [.i .i64, .i .i64], .i .i64]] [.s, .b] [] [4, 5] .no
noncomputable def g_iRecText := f_iRecText BIG
noncomputable def p_iRecText : TSp := ⟨s_iRecText, [[.i .i64], [.i .i64, .i .i64, .i .i64, .i .i64, .i .i64, .i .i64, .i .i64, .b, .sl [.i .i64, .i .i64], .sl [.i .i64], .i .i64, .i .i64, .sl [.i .i64, .i .i64], .i .i64]], [.s, .b], [], Ou.j .no, g_iRecText⟩
theorem k_iRecText : chkW PG E_iRecText 272 s_iRecText (c_iRecText.ht 128) .no = some (c_iRecText.wc E_iRecText, [4, 5]) := by kernel_rfl
theorem ok_iRecText : p_iRecText.Ok PG 272 := mkOk (env_cons ok_inoAnswer (env_cons ok_inoOrder (env_cons ok_iaskText (env_cons ok_iin (env_cons ok_iVarText (env_cons ok_iAnswerText (env_cons ok_iShortText (env_cons ok_iOrderText (env_nil PG))))))))) k_iRecText (by kernel_rfl)
theorem e_iRecText (n : Nat) (a0 : Int) (a1 : Int × Int × Int × Int × Int × Int × Int × Bool × List (Int × Int) × List (Int) × Int × Int × List (Int × Int) × Int) : f_iRecText n (a0, a1) =
  Option.bind (Option.bind (bif decide (a1.1 = (1 : Int)) then
     bif decide (a1.2.2.2.2.2.1 = (0 : Int)) then
      Option.bind (g_inoAnswer (a1.2.2.2.2.2.2.1, a1.2.2.2.2.2.2.2.1, a1.2.2.2.2.2.2.2.2.1, a1.2.2.2.2.2.2.2.2.2.1)) fun r0 =>
      bif r0.1 then
       Option.bind (g_inoOrder a1.2.2.2.2.2.2.2.2.2.2) fun r1 =>
       some r1.1
      else some false
     else some false
    else some false : Option (Bool)) fun x2 =>
   bif x2 then
    Option.bind (g_iaskText (a1.2.1, a1.2.2.1, a1.2.2.2.1, a1.2.2.2.2.1)) fun r3 =>
    some (r3.1.1, r3.1.2)
   else Option.bind (bif decide (a1.1 = (2 : Int)) then
     bif (decide (a1.2.1 = (0 : Int)) && (decide (a1.2.2.1 = (0 : Int)) && (decide (a1.2.2.2.1 = (0 : Int)) && (decide (a1.2.2.2.2.1 = (0 : Int)) && true)))) then
      Option.bind (g_inoOrder a1.2.2.2.2.2.2.2.2.2.2) fun r4 =>
      bif r4.1 then
       Option.bind (g_iin (a1.2.2.2.2.2.1, (0 : Int), (100000 : Int))) fun r5 =>
       some r5.1
      else some false
     else some false
    else some false : Option (Bool)) fun x6 =>
   bif x6 then
    Option.bind (g_iVarText a1.2.2.2.2.2.1) fun r7 =>
    Option.bind (g_iAnswerText (a0, (a1.2.2.2.2.2.2.1, a1.2.2.2.2.2.2.2.1, a1.2.2.2.2.2.2.2.2.1, a1.2.2.2.2.2.2.2.2.2.1))) fun r8 =>
    Option.bind (g_iShortText r8.1.1) fun r9 =>
    bif decide (r7.1.1.size + r9.1.1.size ≤ 4611686018427387904) then
     some (r7.1.1 ++ r9.1.1, r8.1.2)
    else none
   else Option.bind (bif decide (a1.1 = (3 : Int)) then
     bif (decide (a1.2.1 = (0 : Int)) && (decide (a1.2.2.1 = (0 : Int)) && (decide (a1.2.2.2.1 = (0 : Int)) && (decide (a1.2.2.2.2.1 = (0 : Int)) && true)))) then
      bif decide (a1.2.2.2.2.2.1 = (0 : Int)) then
       Option.bind (g_inoAnswer (a1.2.2.2.2.2.2.1, a1.2.2.2.2.2.2.2.1, a1.2.2.2.2.2.2.2.2.1, a1.2.2.2.2.2.2.2.2.2.1)) fun r10 =>
       some r10.1
      else some false
     else some false
    else some false : Option (Bool)) fun x11 =>
   bif x11 then
    Option.bind (g_iOrderText (a0, a1.2.2.2.2.2.2.2.2.2.2)) fun r12 =>
    Option.bind (g_iShortText r12.1.1) fun r13 =>
    some (r13.1.1, r12.1.2)
   else some ((ByteArray.mk #[]), false) : Option (ByteArray × Bool)) fun x14 =>
  bif !x14.2 then
   some (((ByteArray.mk #[]), false), ())
  else bif decide ((bytesStr ([IntKind.wrap .u8 (a1.1)])).size + x14.1.size ≤ 4611686018427387904) then
   some (((bytesStr ([IntKind.wrap .u8 (a1.1)])) ++ x14.1, true), ())
  else none := by kernel_rfl
/- impl.ReadRec -/
def c_iReadRec : TC :=
 (.seq (.rg [⟨false, [], [], .det 2 (.a (.c [.i .i64, .i .i64, .i .i64, .i .i64, .i .i64, .i .i64, .i .i64, .b, .sl [.i .i64, .i .i64], .sl [.i .i64], .i .i64, .i .i64, .sl [.i .i64, .i .i64], .i .i64] [.int .i64 (0), .int .i64 (0), .int .i64 (0), .int .i64 (0), .int .i64 (0), .int .i64 (0), .int .i64 (0), .bool false, .slice none 0 0, .slice none 0 0, .int .i64 (0), .int .i64 (0), .slice none 0 0, .int .i64 (0)])), [4, 1000000001], (some 4), none⟩,
   o1 5 (.lit [.b] [.bool false])])
 (.seq (.rg [o1 11 (.copy 1),
   o1 12 (.build [.s, .i .i64, .b] [(0, .t 11)]),
   o1 13 (.a (.t 12)),
   o1 6 (.p0)])
 (.seq (.rg [⟨false, [], [], .det 2 (.a (.c [.i .i64, .i .i64, .i .i64, .i .i64, .i .i64, .i .i64, .i .i64, .b, .sl [.i .i64, .i .i64], .sl [.i .i64], .i .i64, .i .i64, .sl [.i .i64, .i .i64], .i .i64] [.int .i64 (0), .int .i64 (0), .int .i64 (0), .int .i64 (0), .int .i64 (0), .int .i64 (0), .int .i64 (0), .bool false, .slice none 0 0, .slice none 0 0, .int .i64 (0), .int .i64 (0), .slice none 0 0, .int .i64 (0)])), [7, 1000000001], (some 7), none⟩])
 (.seq (.rg [o1 14 (.same 6),
   ⟨false, [], [], .call 2 267 [.t 13] (.mp 0), [15, 13], (some 15), none⟩,
   o1 16 (.idx .nil),
   o4 1 [7] (.store 7 [] 0 (.t 16) (.t 15))])
 (.seq (.rg [o1 8 (.lit [.b] [.bool true])])
 (.seq (.join [⟨13, [.s, .i .i64, .b], false⟩, ⟨7, [.i .i64, .i .i64, .i .i64, .i .i64, .i .i64, .i .i64, .i .i64, .b, .sl [.i .i64, .i .i64], .sl [.i .i64], .i .i64, .i .i64, .sl [.i .i64, .i .i64], .i .i64], false⟩, ⟨8, [.b], false⟩] 1152921504606724480 none (.seq (.rg [o1 17 (.idx .nil),
   o1 18 (.load 7 [] 0 (.t 17) 1 false)])
 (.block 0 (.seq (.rg [o1 20 (.data (.bin .eql) [.t 18, .c (.int .i64 (1))]),
   o1 19 (.copy 20)])
 (.cond (.t 19)
  (.seq (.rg [o1 21 (.same 6),
    ⟨false, [], [], .call 2 268 [.t 13] (.mp 0), [22, 13], (some 22), none⟩,
    o1 23 (.idx .nil),
    o1 24 (.idx (.t 23)),
    o4 1 [7] (.store 7 [] 1 (.t 24) (.t 22))])
  (.seq (.rg [o1 25 (.same 6),
    ⟨false, [], [], .call 2 268 [.t 13] (.mp 0), [26, 13], (some 26), none⟩,
    o1 27 (.idx .nil),
    o1 28 (.idx (.t 27)),
    o4 1 [7] (.store 7 [] 2 (.t 28) (.t 26))])
  (.seq (.rg [o1 29 (.same 6),
    ⟨false, [], [], .call 2 268 [.t 13] (.mp 0), [30, 13], (some 30), none⟩,
    o1 31 (.idx .nil),
    o1 32 (.idx (.t 31)),
    o4 1 [7] (.store 7 [] 3 (.t 32) (.t 30))])
  (.rg [o1 33 (.same 6),
    ⟨false, [], [], .call 2 268 [.t 13] (.mp 0), [34, 13], (some 34), none⟩,
    o1 35 (.idx .nil),
    o1 36 (.idx (.t 35)),
    o4 1 [7] (.store 7 [] 4 (.t 36) (.t 34))]))))
  (.seq (.rg [o1 38 (.data (.bin .eql) [.t 18, .c (.int .i64 (2))]),
    o1 37 (.copy 38)])
  (.cond (.t 37)
   (.seq (.rg [o1 39 (.same 6),
     ⟨false, [], [], .call 2 268 [.t 13] (.mp 0), [40, 13], (some 40), none⟩,
     o1 41 (.idx .nil),
     o4 1 [7] (.store 7 [] 5 (.t 41) (.t 40))])
   (.rg [o1 43 (.copy 0),
     o1 44 (.same 6),
     ⟨false, [], [], .call 2 270 [.t 13] (.mp 0), [45, 13], (some 45), none⟩,
     o3 46 269 [.t 43, .t 45],
     ⟨false, [], [], .det 2 (.copy 46), [42, 46], (some 42), none⟩,
     ⟨false, [], [], .det 2 (.ext 42 0 4), [47, 42], (some 47), none⟩,
     o1 48 (.ext 42 4 1),
     o1 49 (.idx .nil),
     o4 2 [7, 47] (.store 7 [] 6 (.t 49) (.t 47)),
     o1 8 (.copy 48)]))
   (.seq (.rg [o1 51 (.data (.bin .eql) [.t 18, .c (.int .i64 (3))]),
     o1 50 (.copy 51)])
   (.cond (.t 50)
    (.rg [o1 53 (.copy 0),
      o1 54 (.same 6),
      ⟨false, [], [], .call 2 270 [.t 13] (.mp 0), [55, 13], (some 55), none⟩,
      o3 56 271 [.t 53, .t 55],
      ⟨false, [], [], .det 2 (.copy 56), [52, 56], (some 52), none⟩,
      ⟨false, [], [], .det 2 (.ext 52 0 4), [57, 52], (some 57), none⟩,
      o1 58 (.ext 52 4 1),
      o1 59 (.idx .nil),
      o4 2 [7, 57] (.store 7 [] 10 (.t 59) (.t 57)),
      o1 8 (.copy 58)])
    .skip)))))))))
 (.seq (.seq (.rg [o1 61 (.copy 0),
   o1 62 (.load 7 [] 0 .nil 14 true),
   o3 63 272 [.t 61, .t 62],
   ⟨false, [], [], .det 2 (.copy 63), [60, 63], (some 60), none⟩,
   o1 64 (.ext 60 0 1),
   o1 65 (.ext 60 1 1),
   o1 9 (.copy 64),
   o1 10 (.copy 65)])
 (.seq (.join [⟨81, [.b], false⟩] 4835629491482221860626432 none (.rg [o1 66 (.copy 8),
   o1 67 (.data .not [.t 66]),
   o1 68 (.copy 67),
   o2 69 (.same 6) 2 false,
   ⟨false, [], [], .call 2 273 [.t 13] (.mp 0), [70, 13], (some 70), some (2, false)⟩,
   o2 71 (.data .not [.t 70]) 2 false,
   ⟨false, [], [], .pick 68 (.c (.bool true)) (.t 71), [72], (some 72), none⟩,
   o1 73 (.copy 72),
   o2 74 (.copy 10) 7 false,
   o2 75 (.data .not [.t 74]) 7 false,
   ⟨false, [], [], .pick 73 (.c (.bool true)) (.t 75), [76], (some 76), none⟩,
   o1 77 (.copy 76),
   o2 78 (.copy 9) 11 false,
   o2 79 (.copy 1) 11 false,
   o2 80 (.data (.bin .neq) [.t 78, .t 79]) 11 false,
   ⟨false, [], [], .pick 77 (.c (.bool true)) (.t 80), [81], (some 81), none⟩]))
 (.cond (.t 81)
  (.seq (.rg [o1 82 (.build [.i .i64, .i .i64, .i .i64, .i .i64, .i .i64, .i .i64, .i .i64, .b, .sl [.i .i64, .i .i64], .sl [.i .i64], .i .i64, .i .i64, .sl [.i .i64, .i .i64], .i .i64] []),
    o4 2 [4, 82] (.store 4 [] 0 .nil (.t 82)),
    o1 5 (.lit [.b] [.bool false])])
  .ret)
  .skip)))
 (.seq (.rg [o1 83 (.load 7 [] 0 .nil 14 true),
   ⟨false, [83], [], .det 2 (.store 4 [] 0 .nil (.t 83)), [4, 83, 83, 7, 62], none, none⟩,
   o1 5 (.lit [.b] [.bool true])])
 .ret))))))))
def s_iReadRec : Sig := ⟨[.rd false [.d], .rd false [.d]], (.tup [(true, 14), (false, 1)] [.d, .d, .d, .d, .d, .d, .d, .d, .sl (.own none) [.d, .d], .sl (.own none) [.d], .d, .d, .sl (.own none) [.d, .d], .d, .d])⟩
noncomputable def E_iReadRec : TEnv := envOf [(267, p_ireader_one), (268, p_ireader_num), (270, p_ireader_short), (269, p_iReadAnswer), (271, p_iReadOrder), (272, p_iRecText), (273, p_ireader_ends)]
noncomputable def f_iReadRec (n : Nat) : Int × ByteArray → Option ((Int × Int × Int × Int × Int × Int × Int × Bool × List (Int × Int) × List (Int) × Int × Int × List (Int × Int) × Int × Bool) × Unit) := runFn n E_iReadRec c_iReadRec [[.i .i64], [.s]] [.i .i64, .i .i64, .i .i64, .i .i64, .i .i64, .i .i64, .i .i64, .b, .sl [.i .i64, .i .i64], .sl [.i .i64], .i .i64, .i .i64, .sl [.i .i64, .i .i64], .i .i64, .b] [] [4, 5] .no
noncomputable def g_iReadRec := f_iReadRec BIG
noncomputable def p_iReadRec : TSp := ⟨s_iReadRec, [[.i .i64], [.s]], [.i .i64, .i .i64, .i .i64, .i .i64, .i .i64, .i .i64, .i .i64, .b, .sl [.i .i64, .i .i64], .sl [.i .i64], .i .i64, .i .i64, .sl [.i .i64, .i .i64], .i .i64, .b], [], Ou.j .no, g_iReadRec⟩
theorem k_iReadRec : chkW PG E_iReadRec 144 s_iReadRec (c_iReadRec.ht 84) .no = some (c_iReadRec.wc E_iReadRec, [4, 5]) := by kernel_rfl
theorem ok_iReadRec : p_iReadRec.Ok PG 144 := mkOk (env_cons ok_ireader_one (env_cons ok_ireader_num (env_cons ok_ireader_short (env_cons ok_iReadAnswer (env_cons ok_iReadOrder (env_cons ok_iRecText (env_cons ok_ireader_ends (env_nil PG)))))))) k_iReadRec (by kernel_rfl)
theorem e_iReadRec (n : Nat) (a0 : Int) (a1 : ByteArray) : f_iReadRec n (a0, a1) =
  Option.bind (g_ireader_one (a1, (0 : Int), false)) fun r0 =>
  Option.bind (bif decide (r0.1 = (1 : Int)) then
    Option.bind (g_ireader_num r0.2) fun r1 =>
    Option.bind (g_ireader_num r1.2) fun r2 =>
    Option.bind (g_ireader_num r2.2) fun r3 =>
    Option.bind (g_ireader_num r3.2) fun r4 =>
    some (r4.2, (r0.1, r1.1, r2.1, r3.1, r4.1, (0 : Int), (0 : Int), false, [], [], (0 : Int), (0 : Int), [], (0 : Int)), true)
   else bif decide (r0.1 = (2 : Int)) then
    Option.bind (g_ireader_num r0.2) fun r5 =>
    Option.bind (g_ireader_short r5.2) fun r6 =>
    Option.bind (g_iReadAnswer (a0, r6.1)) fun r7 =>
    some (r6.2, (r0.1, (0 : Int), (0 : Int), (0 : Int), (0 : Int), r5.1, r7.1.1, r7.1.2.1, r7.1.2.2.1, r7.1.2.2.2.1, (0 : Int), (0 : Int), [], (0 : Int)), r7.1.2.2.2.2)
   else bif decide (r0.1 = (3 : Int)) then
    Option.bind (g_ireader_short r0.2) fun r8 =>
    Option.bind (g_iReadOrder (a0, r8.1)) fun r9 =>
    some (r8.2, (r0.1, (0 : Int), (0 : Int), (0 : Int), (0 : Int), (0 : Int), (0 : Int), false, [], [], r9.1.1, r9.1.2.1, r9.1.2.2.1, r9.1.2.2.2.1), r9.1.2.2.2.2)
   else some (r0.2, (r0.1, (0 : Int), (0 : Int), (0 : Int), (0 : Int), (0 : Int), (0 : Int), false, [], [], (0 : Int), (0 : Int), [], (0 : Int)), true) : Option ((ByteArray × Int × Bool) × (Int × Int × Int × Int × Int × Int × Int × Bool × List (Int × Int) × List (Int) × Int × Int × List (Int × Int) × Int) × Bool)) fun x10 =>
  Option.bind (g_iRecText (a0, x10.2.1)) fun r11 =>
  Option.bind (bif !x10.2.2 then
    some true
   else Option.bind (g_ireader_ends x10.1) fun r12 =>
   bif !r12.1 then
    some true
   else bif !r11.1.2 then
    some true
   else some (!(r11.1.1.toList == a1.toList)) : Option (Bool)) fun x13 =>
  bif x13 then
   some (((0 : Int), (0 : Int), (0 : Int), (0 : Int), (0 : Int), (0 : Int), (0 : Int), false, [], [], (0 : Int), (0 : Int), [], (0 : Int), false), ())
  else some ((x10.2.1.1, x10.2.1.2.1, x10.2.1.2.2.1, x10.2.1.2.2.2.1, x10.2.1.2.2.2.2.1, x10.2.1.2.2.2.2.2.1, x10.2.1.2.2.2.2.2.2.1, x10.2.1.2.2.2.2.2.2.2.1, x10.2.1.2.2.2.2.2.2.2.2.1, x10.2.1.2.2.2.2.2.2.2.2.2.1, x10.2.1.2.2.2.2.2.2.2.2.2.2.1, x10.2.1.2.2.2.2.2.2.2.2.2.2.2.1, x10.2.1.2.2.2.2.2.2.2.2.2.2.2.2.1, x10.2.1.2.2.2.2.2.2.2.2.2.2.2.2.2, true), ()) := by kernel_rfl
/- impl.ReadRecs -/
def c_iReadRecs : TC :=
 (.seq (.rg [o1 4 (.lit [.sl [.i .i64, .i .i64, .i .i64, .i .i64, .i .i64, .i .i64, .i .i64, .b, .sl [.i .i64, .i .i64], .sl [.i .i64], .i .i64, .i .i64, .sl [.i .i64, .i .i64], .i .i64]] [.slice none 0 0]),
   o1 5 (.lit [.i .i64] [.int .i64 (0)])])
 (.seq (.rg [o1 6 (.lit [.sl [.i .i64, .i .i64, .i .i64, .i .i64, .i .i64, .i .i64, .i .i64, .b, .sl [.i .i64, .i .i64], .sl [.i .i64], .i .i64, .i .i64, .sl [.i .i64, .i .i64], .i .i64]] [.slice none 0 0])])
 (.seq (.seq (.rg [o1 13 (.copy 1),
   o1 14 (.data .slen [.t 13]),
   o1 15 (.data (.bin .gtr) [.t 14, .c (.int .i64 (20000))])])
 (.cond (.t 15)
  (.seq (.rg [o1 4 (.lit [.sl [.i .i64, .i .i64, .i .i64, .i .i64, .i .i64, .i .i64, .i .i64, .b, .sl [.i .i64, .i .i64], .sl [.i .i64], .i .i64, .i .i64, .sl [.i .i64, .i .i64], .i .i64]] [.slice none 0 0]),
    o1 5 (.lit [.i .i64] [.int .i64 (0)])])
  .ret)
  .skip))
 (.seq (.rg [o1 7 (.lit [.i .i64] [.int .i64 (0)])])
 (.block 0 (.loop [⟨6, [.sl [.i .i64, .i .i64, .i .i64, .i .i64, .i .i64, .i .i64, .i .i64, .b, .sl [.i .i64, .i .i64], .sl [.i .i64], .i .i64, .i .i64, .sl [.i .i64, .i .i64], .i .i64]], false⟩, ⟨7, [.i .i64], false⟩] 4398046453744
  (.block 1 (.seq (.rg [o1 17 (.copy 1),
    o1 18 (.copy 7),
    o3 19 143 [.t 17, .t 18],
    ⟨false, [], [], .det 2 (.copy 19), [16, 19], (some 16), none⟩,
    o1 20 (.ext 16 0 1),
    o1 21 (.ext 16 1 1),
    o1 22 (.ext 16 2 1),
    o1 8 (.copy 20),
    o1 9 (.copy 21),
    o1 10 (.copy 22)])
  (.seq (.rg [o1 24 (.copy 0),
    o1 25 (.copy 8),
    o3 26 144 [.t 24, .t 25],
    ⟨false, [], [], .det 2 (.copy 26), [23, 26], (some 23), none⟩,
    ⟨false, [], [], .det 2 (.ext 23 0 14), [27, 23], (some 27), none⟩,
    o1 28 (.ext 23 14 1),
    ⟨false, [], [], .det 2 (.a (.c [.i .i64, .i .i64, .i .i64, .i .i64, .i .i64, .i .i64, .i .i64, .b, .sl [.i .i64, .i .i64], .sl [.i .i64], .i .i64, .i .i64, .sl [.i .i64, .i .i64], .i .i64] [.int .i64 (0), .int .i64 (0), .int .i64 (0), .int .i64 (0), .int .i64 (0), .int .i64 (0), .int .i64 (0), .bool false, .slice none 0 0, .slice none 0 0, .int .i64 (0), .int .i64 (0), .slice none 0 0, .int .i64 (0)])), [11, 1000000001], (some 11), none⟩,
    o4 2 [11, 27] (.store 11 [] 0 .nil (.t 27)),
    o1 12 (.copy 28)])
  (.seq (.seq (.join [⟨34, [.b], false⟩] 33822867456 none (.rg [o1 29 (.copy 10),
    o1 30 (.data .not [.t 29]),
    o1 31 (.copy 30),
    o2 32 (.copy 12) 2 false,
    o2 33 (.data .not [.t 32]) 2 false,
    ⟨false, [], [], .pick 31 (.c (.bool true)) (.t 33), [34], (some 34), none⟩]))
  (.cond (.t 34)
   (.seq (.rg [⟨false, [], [], .det 2 (.copy 6), [35, 6], (some 35), none⟩,
     o1 36 (.copy 7),
     ⟨false, [], [], .det 2 (.copy 35), [4, 35], (some 4), none⟩,
     o1 5 (.copy 36)])
   .ret)
   .skip))
  (.seq (.rg [⟨false, [], [], .det 2 (.copy 6), [37, 6], (some 37), none⟩,
    o1 38 (.load 11 [] 0 .nil 14 true),
    ⟨false, [38], [], .det 2 (.sli [.i .i64, .i .i64, .i .i64, .i .i64, .i .i64, .i .i64, .i .i64, .b, .sl [.i .i64, .i .i64], .sl [.i .i64], .i .i64, .i .i64, .sl [.i .i64, .i .i64], .i .i64] [.t 38]), [39, 38, 38, 11], (some 39), none⟩,
    ⟨false, [], [], .det 3 (.app (some 37) 39), [40, 37, 39], (some 40), none⟩,
    ⟨false, [], [], .det 2 (.copy 40), [6, 40], (some 6), none⟩])
  (.rg [o1 41 (.copy 9),
    o1 7 (.copy 41)]))))))))))))
def s_iReadRecs : Sig := ⟨[.rd false [.d], .rd false [.d]], (.tup [(false, 1), (false, 1)] [.sl (.own none) [.d, .d, .d, .d, .d, .d, .d, .d, .sl (.own none) [.d, .d], .sl (.own none) [.d], .d, .d, .sl (.own none) [.d, .d], .d], .d])⟩
noncomputable def E_iReadRecs : TEnv := envOf [(143, p_iframeAt), (144, p_iReadRec)]
noncomputable def f_iReadRecs (n : Nat) : Int × ByteArray → Option ((List (Int × Int × Int × Int × Int × Int × Int × Bool × List (Int × Int) × List (Int) × Int × Int × List (Int × Int) × Int) × Int) × Unit) := runFn n E_iReadRecs c_iReadRecs [[.i .i64], [.s]] [.sl [.i .i64, .i .i64, .i .i64, .i .i64, .i .i64, .i .i64, .i .i64, .b, .sl [.i .i64, .i .i64], .sl [.i .i64], .i .i64, .i .i64, .sl [.i .i64, .i .i64], .i .i64], .i .i64] [] [4, 5] .no
noncomputable def g_iReadRecs := f_iReadRecs BIG
noncomputable def p_iReadRecs : TSp := ⟨s_iReadRecs, [[.i .i64], [.s]], [.sl [.i .i64, .i .i64, .i .i64, .i .i64, .i .i64, .i .i64, .i .i64, .b, .sl [.i .i64, .i .i64], .sl [.i .i64], .i .i64, .i .i64, .sl [.i .i64, .i .i64], .i .i64], .i .i64], [], Ou.j .no, g_iReadRecs⟩
theorem k_iReadRecs : chkW PG E_iReadRecs 55 s_iReadRecs (c_iReadRecs.ht 42) .no = some (c_iReadRecs.wc E_iReadRecs, [4, 5]) := by kernel_rfl
theorem ok_iReadRecs : p_iReadRecs.Ok PG 55 := mkOk (env_cons ok_iframeAt (env_cons ok_iReadRec (env_nil PG))) k_iReadRecs (by kernel_rfl)
theorem e_iReadRecs (n : Nat) (a0 : Int) (a1 : ByteArray) : f_iReadRecs n (a0, a1) =
  bif decide ((20000 : Int) < (a1.size : Int)) then
   some (([], (0 : Int)), ())
  else loopT n (X := (List (Int × Int × Int × Int × Int × Int × Int × Bool × (List (Int × Int)) × (List (Int)) × Int × Int × (List (Int × Int)) × Int)) × Int) (B := (List (Int × Int × Int × Int × Int × Int × Int × Bool × (List (Int × Int)) × (List (Int)) × Int × Int × (List (Int × Int)) × Int) × Int) × Unit) (fun self1 x0 =>
   Option.bind (g_iframeAt (a1, x0.2)) fun r2 =>
   Option.bind (g_iReadRec (a0, r2.1.1)) fun r3 =>
   Option.bind (bif !r2.1.2.2 then
     some true
    else some !r3.1.2.2.2.2.2.2.2.2.2.2.2.2.2.2 : Option (Bool)) fun x4 =>
   bif x4 then
    some (x0, ())
   else bif decide (x0.1.length + ([(r3.1.1, r3.1.2.1, r3.1.2.2.1, r3.1.2.2.2.1, r3.1.2.2.2.2.1, r3.1.2.2.2.2.2.1, r3.1.2.2.2.2.2.2.1, r3.1.2.2.2.2.2.2.2.1, r3.1.2.2.2.2.2.2.2.2.1, r3.1.2.2.2.2.2.2.2.2.2.1, r3.1.2.2.2.2.2.2.2.2.2.2.1, r3.1.2.2.2.2.2.2.2.2.2.2.2.1, r3.1.2.2.2.2.2.2.2.2.2.2.2.2.1, r3.1.2.2.2.2.2.2.2.2.2.2.2.2.2.1)]).length ≤ 4294967296) then
    self1 (x0.1 ++ ([(r3.1.1, r3.1.2.1, r3.1.2.2.1, r3.1.2.2.2.1, r3.1.2.2.2.2.1, r3.1.2.2.2.2.2.1, r3.1.2.2.2.2.2.2.1, r3.1.2.2.2.2.2.2.2.1, r3.1.2.2.2.2.2.2.2.2.1, r3.1.2.2.2.2.2.2.2.2.2.1, r3.1.2.2.2.2.2.2.2.2.2.2.1, r3.1.2.2.2.2.2.2.2.2.2.2.2.1, r3.1.2.2.2.2.2.2.2.2.2.2.2.2.1, r3.1.2.2.2.2.2.2.2.2.2.2.2.2.2.1)]), r2.1.2.1)
   else none) ([], (0 : Int)) := by kernel_rfl
/- impl.MendActs -/
def c_iMendActs : TC :=
 (.seq (.rg [o1 2 (.a (.t 0)),
   o1 4 (.lit [.sl [.i .i64, .s, .s, .s]] [.slice none 0 0]),
   o1 5 (.lit [.b] [.bool false])])
 (.seq (.seq (.rg [o1 11 (.load 2 [] 0 .nil 1 false),
   o3 12 155 [.t 11],
   o1 13 (.data .not [.t 12])])
 (.cond (.t 13)
  (.seq (.rg [o1 4 (.lit [.sl [.i .i64, .s, .s, .s]] [.slice none 0 0]),
    o1 5 (.lit [.b] [.bool false])])
  .ret)
  .skip))
 (.seq (.rg [o1 15 (.load 2 [] 0 .nil 1 false),
   o3 16 156 [.t 15, .c [.s] [.string ⟨#[108, 111, 103]⟩]],
   ⟨false, [], [], .det 2 (.copy 16), [14, 16], (some 14), none⟩,
   o1 17 (.ext 14 0 1),
   o1 18 (.ext 14 1 1),
   o1 6 (.copy 17),
   o1 7 (.copy 18)])
 (.seq (.rg [o1 20 (.copy 1),
   o1 21 (.copy 6),
   o3 22 55 [.t 20, .t 21],
   ⟨false, [], [], .det 2 (.copy 22), [19, 22], (some 19), none⟩,
   ⟨false, [], [], .det 2 (.ext 19 0 1), [23, 19], (some 23), none⟩,
   o1 24 (.ext 19 1 1),
   ⟨false, [], [], .det 2 (.copy 23), [8, 23], (some 8), none⟩,
   o1 9 (.copy 24)])
 (.seq (.rg [o1 10 (.lit [.sl [.i .i64, .s, .s, .s]] [.slice none 0 0])])
 (.seq (.join [⟨10, [.sl [.i .i64, .s, .s, .s]], false⟩] 4261413888 none (.seq (.rg [o1 25 (.load 2 [] 0 .nil 1 false),
   o3 26 157 [.t 25, .c [.s] [.string ⟨#[108, 111, 103, 43]⟩]],
   o1 27 (.data (.bin .geq) [.t 26, .c (.int .i64 (0))])])
 (.cond (.t 27)
  (.rg [⟨false, [], [], .det 2 (.copy 10), [28, 10], (some 28), none⟩,
    ⟨false, [], [], .det 3 (.build [.i .i64, .s, .s, .s] [(0, .c [.i .i64] [.int .i64 (4)]), (1, .c [.s] [.string ⟨#[108, 111, 103, 43]⟩])]), [29, 1000000001, 1000000002], (some 29), none⟩,
    o1 30 (.sli [.i .i64, .s, .s, .s] [.t 29]),
    ⟨false, [], [], .det 2 (.app (some 28) 30), [31, 28], (some 31), none⟩,
    ⟨false, [], [], .det 2 (.copy 31), [10, 31], (some 10), none⟩])
  .skip)))
 (.seq (.seq (.rg [o1 32 (.copy 9),
   o1 33 (.copy 6),
   o1 34 (.data .slen [.t 33]),
   o1 35 (.data (.bin .eql) [.t 32, .t 34])])
 (.cond (.t 35)
  (.seq (.rg [⟨false, [], [], .det 2 (.copy 10), [36, 10], (some 36), none⟩,
    ⟨false, [], [], .det 2 (.copy 36), [4, 36], (some 4), none⟩,
    o1 5 (.lit [.b] [.bool true])])
  .ret)
  .skip))
 (.seq (.rg [⟨false, [], [], .det 2 (.copy 10), [37, 10], (some 37), none⟩,
   o1 38 (.copy 6),
   o1 39 (.copy 9),
   o1 40 (.data (.ssl false true) [.t 38, .t 39]),
   ⟨false, [], [], .det 3 (.build [.i .i64, .s, .s, .s] [(0, .c [.i .i64] [.int .i64 (1)]), (1, .c [.s] [.string ⟨#[108, 111, 103, 43]⟩]), (2, .t 40)]), [41, 1000000001, 1000000002], (some 41), none⟩,
   ⟨false, [], [], .det 3 (.build [.i .i64, .s, .s, .s] [(0, .c [.i .i64] [.int .i64 (2)]), (1, .c [.s] [.string ⟨#[108, 111, 103, 43]⟩])]), [42, 1000000001, 1000000002], (some 42), none⟩,
   ⟨false, [], [], .det 4 (.build [.i .i64, .s, .s, .s] [(0, .c [.i .i64] [.int .i64 (3)]), (1, .c [.s] [.string ⟨#[108, 111, 103, 43]⟩]), (3, .c [.s] [.string ⟨#[108, 111, 103]⟩])]), [43, 1000000001, 1000000002, 1000000004], (some 43), none⟩,
   o1 44 (.sli [.i .i64, .s, .s, .s] [.t 41, .t 42, .t 43]),
   ⟨false, [], [], .det 2 (.app (some 37) 44), [45, 37], (some 45), none⟩,
   ⟨false, [], [], .det 2 (.copy 45), [4, 45], (some 4), none⟩,
   o1 5 (.lit [.b] [.bool true])])
 .ret))))))))
def s_iMendActs : Sig := ⟨[.rd true [.sl (.own none) [.d, .d, .d]], .rd false [.d]], (.tup [(false, 1), (false, 1)] [.sl (.own none) [.d, .d, .d, .d], .d])⟩
noncomputable def E_iMendActs : TEnv := envOf [(155, p_iDiskOk), (156, p_iFileAt), (55, p_iReadRecs), (157, p_ifileAt)]
noncomputable def f_iMendActs (n : Nat) : (List (ByteArray × ByteArray × Int)) × Int → Option ((List (Int × ByteArray × ByteArray × ByteArray) × Bool) × Unit) := runFn n E_iMendActs c_iMendActs [[.sl [.s, .s, .i .i64]], [.i .i64]] [.sl [.i .i64, .s, .s, .s], .b] [] [4, 5] .no
noncomputable def g_iMendActs := f_iMendActs BIG
noncomputable def p_iMendActs : TSp := ⟨s_iMendActs, [[.sl [.s, .s, .i .i64]], [.i .i64]], [.sl [.i .i64, .s, .s, .s], .b], [], Ou.j .no, g_iMendActs⟩
theorem k_iMendActs : chkW PG E_iMendActs 62 s_iMendActs (c_iMendActs.ht 46) .no = some (c_iMendActs.wc E_iMendActs, [4, 5]) := by kernel_rfl
theorem ok_iMendActs : p_iMendActs.Ok PG 62 := mkOk (env_cons ok_iDiskOk (env_cons ok_iFileAt (env_cons ok_iReadRecs (env_cons ok_ifileAt (env_nil PG))))) k_iMendActs (by kernel_rfl)
theorem e_iMendActs (n : Nat) (a0 : List (ByteArray × ByteArray × Int)) (a1 : Int) : f_iMendActs n (a0, a1) =
  Option.bind (g_iDiskOk a0) fun r0 =>
  bif !r0.1 then
   some (([], false), ())
  else Option.bind (g_iFileAt (a0, (ByteArray.mk #[108, 111, 103]))) fun r1 =>
  Option.bind (g_iReadRecs (a1, r1.1.1)) fun r2 =>
  Option.bind (Option.bind (g_ifileAt (a0, (ByteArray.mk #[108, 111, 103, 43]))) fun r3 =>
   bif decide ((0 : Int) ≤ r3.1) then
    bif decide (0 + ([((4 : Int), (ByteArray.mk #[108, 111, 103, 43]), ByteArray.empty, ByteArray.empty)]).length ≤ 4294967296) then
     some ([] ++ ([((4 : Int), (ByteArray.mk #[108, 111, 103, 43]), ByteArray.empty, ByteArray.empty)]))
    else none
   else some [] : Option ((List (Int × ByteArray × ByteArray × ByteArray)))) fun x4 =>
  bif decide (r2.1.2 = (r1.1.1.size : Int)) then
   some ((x4, true), ())
  else bif decide (0 ≤ r2.1.2 ∧ r2.1.2 ≤ r1.1.1.size) then
   bif decide (x4.length + ([((1 : Int), (ByteArray.mk #[108, 111, 103, 43]), r1.1.1.extract 0 (Int.toNat r2.1.2), ByteArray.empty), ((2 : Int), (ByteArray.mk #[108, 111, 103, 43]), ByteArray.empty, ByteArray.empty), ((3 : Int), (ByteArray.mk #[108, 111, 103, 43]), ByteArray.empty, (ByteArray.mk #[108, 111, 103]))]).length ≤ 4294967296) then
    some ((x4 ++ ([((1 : Int), (ByteArray.mk #[108, 111, 103, 43]), r1.1.1.extract 0 (Int.toNat r2.1.2), ByteArray.empty), ((2 : Int), (ByteArray.mk #[108, 111, 103, 43]), ByteArray.empty, ByteArray.empty), ((3 : Int), (ByteArray.mk #[108, 111, 103, 43]), ByteArray.empty, (ByteArray.mk #[108, 111, 103]))]), true), ())
   else none
  else none := by kernel_rfl
/- laws.eqAct -/
def c_leqAct : TC :=
 (.seq (.rg [o1 2 (.a (.t 0)),
   o1 3 (.a (.t 1)),
   o1 4 (.lit [.b] [.bool false])])
 (.seq (.seq (.rg [o1 5 (.idx .nil),
   o1 6 (.load 2 [] 0 (.t 5) 1 false),
   o1 7 (.idx .nil),
   o1 8 (.load 3 [] 0 (.t 7) 1 false),
   o1 9 (.data (.bin .neq) [.t 6, .t 8])])
 (.cond (.t 9)
  (.seq (.rg [o1 4 (.lit [.b] [.bool false])])
  .ret)
  .skip))
 (.seq (.seq (.rg [o1 10 (.idx .nil),
   o1 11 (.load 2 [] 1 (.t 10) 1 false),
   o1 12 (.idx .nil),
   o1 13 (.load 3 [] 1 (.t 12) 1 false),
   o1 14 (.data (.bin .neq) [.t 11, .t 13])])
 (.cond (.t 14)
  (.seq (.rg [o1 4 (.lit [.b] [.bool false])])
  .ret)
  .skip))
 (.seq (.seq (.rg [o1 15 (.idx .nil),
   o1 16 (.load 2 [] 2 (.t 15) 1 false),
   o1 17 (.idx .nil),
   o1 18 (.load 3 [] 2 (.t 17) 1 false),
   o1 19 (.data (.bin .neq) [.t 16, .t 18])])
 (.cond (.t 19)
  (.seq (.rg [o1 4 (.lit [.b] [.bool false])])
  .ret)
  .skip))
 (.seq (.seq (.rg [o1 20 (.idx .nil),
   o1 21 (.load 2 [] 3 (.t 20) 1 false),
   o1 22 (.idx .nil),
   o1 23 (.load 3 [] 3 (.t 22) 1 false),
   o1 24 (.data (.bin .neq) [.t 21, .t 23])])
 (.cond (.t 24)
  (.seq (.rg [o1 4 (.lit [.b] [.bool false])])
  .ret)
  .skip))
 (.seq (.rg [o1 4 (.lit [.b] [.bool true])])
 .ret))))))
def s_leqAct : Sig := ⟨[.rd true [.d, .d, .d, .d], .rd true [.d, .d, .d, .d]], (.one false [.d])⟩
noncomputable def E_leqAct : TEnv := envOf []
noncomputable def f_leqAct (n : Nat) : (Int × ByteArray × ByteArray × ByteArray) × (Int × ByteArray × ByteArray × ByteArray) → Option ((Bool) × Unit) := runFn n E_leqAct c_leqAct [[.i .i64, .s, .s, .s], [.i .i64, .s, .s, .s]] [.b] [] [4] .no
noncomputable def g_leqAct := f_leqAct BIG
noncomputable def p_leqAct : TSp := ⟨s_leqAct, [[.i .i64, .s, .s, .s], [.i .i64, .s, .s, .s]], [.b], [], Ou.j .no, g_leqAct⟩
theorem k_leqAct : chkW PG E_leqAct 158 s_leqAct (c_leqAct.ht 25) .no = some (c_leqAct.wc E_leqAct, [4]) := by kernel_rfl
theorem ok_leqAct : p_leqAct.Ok PG 158 := mkOk (env_nil PG) k_leqAct (by kernel_rfl)
theorem e_leqAct (n : Nat) (a0 : Int × ByteArray × ByteArray × ByteArray) (a1 : Int × ByteArray × ByteArray × ByteArray) : f_leqAct n (a0, a1) =
  bif !decide (a0.1 = a1.1) then
   some (false, ())
  else bif !(a0.2.1.toList == a1.2.1.toList) then
   some (false, ())
  else bif !(a0.2.2.1.toList == a1.2.2.1.toList) then
   some (false, ())
  else bif !(a0.2.2.2.toList == a1.2.2.2.toList) then
   some (false, ())
  else some (true, ()) := by kernel_rfl
/- laws.eqActS -/
def c_leqActS : TC :=
 (.seq (.rg [o1 4 (.lit [.b] [.bool false])])
 (.seq (.seq (.rg [o1 6 (.copy 0),
   o1 7 (.len 6),
   o1 8 (.copy 1),
   o1 9 (.len 8),
   o1 10 (.data (.bin .neq) [.t 7, .t 9])])
 (.cond (.t 10)
  (.seq (.rg [o1 4 (.lit [.b] [.bool false])])
  .ret)
  .skip))
 (.seq (.join [] 134215728 (some [⟨4, [.b], false⟩]) (.seq (.rg [o1 5 (.lit [.i .i64] [.int .i64 (0)])])
 (.block 0 (.loop [⟨5, [.i .i64], false⟩] 134215728
  (.seq (.seq (.rg [o1 11 (.copy 5),
    o1 12 (.copy 0),
    o1 13 (.len 12),
    o1 14 (.data (.bin .lss) [.t 11, .t 13])])
  (.cond (.t 14)
   .skip
   (.exit 0)))
  (.seq (.block 1 (.seq (.rg [o1 17 (.copy 0),
    o1 18 (.copy 5),
    o1 19 (.index 17 (.t 18)),
    o1 20 (.load 17 [(0, 4)] 0 (.t 19) 4 false),
    o1 21 (.copy 1),
    o1 22 (.copy 5),
    o1 23 (.index 21 (.t 22)),
    o1 24 (.load 21 [(0, 4)] 0 (.t 23) 4 false),
    o3 25 158 [.t 20, .t 24],
    o1 26 (.data .not [.t 25])])
  (.cond (.t 26)
   (.seq (.rg [o1 4 (.lit [.b] [.bool false])])
   .ret)
   .skip)))
  (.rg [o1 15 (.copy 5),
    o1 16 (.data (.bin .add) [.t 15, .c (.int .i64 (1))]),
    o1 5 (.copy 16)])))))))
 (.seq (.rg [o1 4 (.lit [.b] [.bool true])])
 .ret))))
def s_leqActS : Sig := ⟨[.rd false [.sl (.own none) [.d, .d, .d, .d]], .rd false [.sl (.own none) [.d, .d, .d, .d]]], (.one false [.d])⟩
noncomputable def E_leqActS : TEnv := envOf [(158, p_leqAct)]
noncomputable def f_leqActS (n : Nat) : (List (Int × ByteArray × ByteArray × ByteArray)) × (List (Int × ByteArray × ByteArray × ByteArray)) → Option ((Bool) × Unit) := runFn n E_leqActS c_leqActS [[.sl [.i .i64, .s, .s, .s]], [.sl [.i .i64, .s, .s, .s]]] [.b] [] [4] .no
noncomputable def g_leqActS := f_leqActS BIG
noncomputable def p_leqActS : TSp := ⟨s_leqActS, [[.sl [.i .i64, .s, .s, .s]], [.sl [.i .i64, .s, .s, .s]]], [.b], [], Ou.j .no, g_leqActS⟩
theorem k_leqActS : chkW PG E_leqActS 63 s_leqActS (c_leqActS.ht 27) .no = some (c_leqActS.wc E_leqActS, [4]) := by kernel_rfl
theorem ok_leqActS : p_leqActS.Ok PG 63 := mkOk (env_cons ok_leqAct (env_nil PG)) k_leqActS (by kernel_rfl)
theorem e_leqActS (n : Nat) (a0 : List (Int × ByteArray × ByteArray × ByteArray)) (a1 : List (Int × ByteArray × ByteArray × ByteArray)) : f_leqActS n (a0, a1) =
  bif !decide ((a0.length : Int) = (a1.length : Int)) then
   some (false, ())
  else Option.bind (loopT n (X := Int) (B := (Unit) ⊕ (Bool)) (fun self1 x0 =>
    bif decide (x0 < (a0.length : Int)) then
     bnd a0.length x0 fun n2 =>
     Option.bind a0[n2]? fun y3 =>
     bnd a1.length x0 fun n4 =>
     Option.bind a1[n4]? fun y5 =>
     Option.bind (g_leqAct (y3, y5)) fun r6 =>
     bif !r6.1 then
      some (Sum.inr false)
     else self1 (IntKind.wrap .i64 (x0 + (1 : Int)))
    else some (Sum.inl ())) (0 : Int) : Option ((Unit) ⊕ (Bool))) fun y => match y with
  | .inl x7 =>
   some (true, ())
  | .inr x7 =>
   some (x7, ()) := by kernel_rfl
/- laws.eqFile -/
def c_leqFile : TC :=
 (.seq (.rg [o1 2 (.a (.t 0)),
   o1 3 (.a (.t 1)),
   o1 4 (.lit [.b] [.bool false])])
 (.seq (.seq (.rg [o1 5 (.idx .nil),
   o1 6 (.load 2 [] 0 (.t 5) 1 false),
   o1 7 (.idx .nil),
   o1 8 (.load 3 [] 0 (.t 7) 1 false),
   o1 9 (.data (.bin .neq) [.t 6, .t 8])])
 (.cond (.t 9)
  (.seq (.rg [o1 4 (.lit [.b] [.bool false])])
  .ret)
  .skip))
 (.seq (.seq (.rg [o1 10 (.idx .nil),
   o1 11 (.load 2 [] 1 (.t 10) 1 false),
   o1 12 (.idx .nil),
   o1 13 (.load 3 [] 1 (.t 12) 1 false),
   o1 14 (.data (.bin .neq) [.t 11, .t 13])])
 (.cond (.t 14)
  (.seq (.rg [o1 4 (.lit [.b] [.bool false])])
  .ret)
  .skip))
 (.seq (.seq (.rg [o1 15 (.idx .nil),
   o1 16 (.load 2 [] 2 (.t 15) 1 false),
   o1 17 (.idx .nil),
   o1 18 (.load 3 [] 2 (.t 17) 1 false),
   o1 19 (.data (.bin .neq) [.t 16, .t 18])])
 (.cond (.t 19)
  (.seq (.rg [o1 4 (.lit [.b] [.bool false])])
  .ret)
  .skip))
 (.seq (.rg [o1 4 (.lit [.b] [.bool true])])
 .ret)))))
def s_leqFile : Sig := ⟨[.rd true [.d, .d, .d], .rd true [.d, .d, .d]], (.one false [.d])⟩
noncomputable def E_leqFile : TEnv := envOf []
noncomputable def f_leqFile (n : Nat) : (ByteArray × ByteArray × Int) × (ByteArray × ByteArray × Int) → Option ((Bool) × Unit) := runFn n E_leqFile c_leqFile [[.s, .s, .i .i64], [.s, .s, .i .i64]] [.b] [] [4] .no
noncomputable def g_leqFile := f_leqFile BIG
noncomputable def p_leqFile : TSp := ⟨s_leqFile, [[.s, .s, .i .i64], [.s, .s, .i .i64]], [.b], [], Ou.j .no, g_leqFile⟩
theorem k_leqFile : chkW PG E_leqFile 279 s_leqFile (c_leqFile.ht 20) .no = some (c_leqFile.wc E_leqFile, [4]) := by kernel_rfl
theorem ok_leqFile : p_leqFile.Ok PG 279 := mkOk (env_nil PG) k_leqFile (by kernel_rfl)
theorem e_leqFile (n : Nat) (a0 : ByteArray × ByteArray × Int) (a1 : ByteArray × ByteArray × Int) : f_leqFile n (a0, a1) =
  bif !(a0.1.toList == a1.1.toList) then
   some (false, ())
  else bif !(a0.2.1.toList == a1.2.1.toList) then
   some (false, ())
  else bif !decide (a0.2.2 = a1.2.2) then
   some (false, ())
  else some (true, ()) := by kernel_rfl
/- laws.eqFileS -/
def c_leqFileS : TC :=
 (.seq (.rg [o1 4 (.lit [.b] [.bool false])])
 (.seq (.seq (.rg [o1 6 (.copy 0),
   o1 7 (.len 6),
   o1 8 (.copy 1),
   o1 9 (.len 8),
   o1 10 (.data (.bin .neq) [.t 7, .t 9])])
 (.cond (.t 10)
  (.seq (.rg [o1 4 (.lit [.b] [.bool false])])
  .ret)
  .skip))
 (.seq (.join [] 134215728 (some [⟨4, [.b], false⟩]) (.seq (.rg [o1 5 (.lit [.i .i64] [.int .i64 (0)])])
 (.block 0 (.loop [⟨5, [.i .i64], false⟩] 134215728
  (.seq (.seq (.rg [o1 11 (.copy 5),
    o1 12 (.copy 0),
    o1 13 (.len 12),
    o1 14 (.data (.bin .lss) [.t 11, .t 13])])
  (.cond (.t 14)
   .skip
   (.exit 0)))
  (.seq (.block 1 (.seq (.rg [o1 17 (.copy 0),
    o1 18 (.copy 5),
    o1 19 (.index 17 (.t 18)),
    o1 20 (.load 17 [(0, 3)] 0 (.t 19) 3 false),
    o1 21 (.copy 1),
    o1 22 (.copy 5),
    o1 23 (.index 21 (.t 22)),
    o1 24 (.load 21 [(0, 3)] 0 (.t 23) 3 false),
    o3 25 279 [.t 20, .t 24],
    o1 26 (.data .not [.t 25])])
  (.cond (.t 26)
   (.seq (.rg [o1 4 (.lit [.b] [.bool false])])
   .ret)
   .skip)))
  (.rg [o1 15 (.copy 5),
    o1 16 (.data (.bin .add) [.t 15, .c (.int .i64 (1))]),
    o1 5 (.copy 16)])))))))
 (.seq (.rg [o1 4 (.lit [.b] [.bool true])])
 .ret))))
def s_leqFileS : Sig := ⟨[.rd false [.sl (.own none) [.d, .d, .d]], .rd false [.sl (.own none) [.d, .d, .d]]], (.one false [.d])⟩
noncomputable def E_leqFileS : TEnv := envOf [(279, p_leqFile)]
noncomputable def f_leqFileS (n : Nat) : (List (ByteArray × ByteArray × Int)) × (List (ByteArray × ByteArray × Int)) → Option ((Bool) × Unit) := runFn n E_leqFileS c_leqFileS [[.sl [.s, .s, .i .i64]], [.sl [.s, .s, .i .i64]]] [.b] [] [4] .no
noncomputable def g_leqFileS := f_leqFileS BIG
noncomputable def p_leqFileS : TSp := ⟨s_leqFileS, [[.sl [.s, .s, .i .i64]], [.sl [.s, .s, .i .i64]]], [.b], [], Ou.j .no, g_leqFileS⟩
theorem k_leqFileS : chkW PG E_leqFileS 159 s_leqFileS (c_leqFileS.ht 27) .no = some (c_leqFileS.wc E_leqFileS, [4]) := by kernel_rfl
theorem ok_leqFileS : p_leqFileS.Ok PG 159 := mkOk (env_cons ok_leqFile (env_nil PG)) k_leqFileS (by kernel_rfl)
theorem e_leqFileS (n : Nat) (a0 : List (ByteArray × ByteArray × Int)) (a1 : List (ByteArray × ByteArray × Int)) : f_leqFileS n (a0, a1) =
  bif !decide ((a0.length : Int) = (a1.length : Int)) then
   some (false, ())
  else Option.bind (loopT n (X := Int) (B := (Unit) ⊕ (Bool)) (fun self1 x0 =>
    bif decide (x0 < (a0.length : Int)) then
     bnd a0.length x0 fun n2 =>
     Option.bind a0[n2]? fun y3 =>
     bnd a1.length x0 fun n4 =>
     Option.bind a1[n4]? fun y5 =>
     Option.bind (g_leqFile (y3, y5)) fun r6 =>
     bif !r6.1 then
      some (Sum.inr false)
     else self1 (IntKind.wrap .i64 (x0 + (1 : Int)))
    else some (Sum.inl ())) (0 : Int) : Option ((Unit) ⊕ (Bool))) fun y => match y with
  | .inl x7 =>
   some (true, ())
  | .inr x7 =>
   some (x7, ()) := by kernel_rfl
/- laws.eqDisk -/
def c_leqDisk : TC :=
 (.seq (.rg [o1 2 (.a (.t 0)),
   o1 3 (.a (.t 1)),
   o1 4 (.lit [.b] [.bool false])])
 (.seq (.seq (.rg [o1 5 (.idx .nil),
   o1 6 (.load 2 [] 0 (.t 5) 1 false),
   o1 7 (.idx .nil),
   o1 8 (.load 3 [] 0 (.t 7) 1 false),
   o3 9 159 [.t 6, .t 8],
   o1 10 (.data .not [.t 9])])
 (.cond (.t 10)
  (.seq (.rg [o1 4 (.lit [.b] [.bool false])])
  .ret)
  .skip))
 (.seq (.rg [o1 4 (.lit [.b] [.bool true])])
 .ret)))
def s_leqDisk : Sig := ⟨[.rd true [.sl (.own none) [.d, .d, .d]], .rd true [.sl (.own none) [.d, .d, .d]]], (.one false [.d])⟩
noncomputable def E_leqDisk : TEnv := envOf [(159, p_leqFileS)]
noncomputable def f_leqDisk (n : Nat) : (List (ByteArray × ByteArray × Int)) × (List (ByteArray × ByteArray × Int)) → Option ((Bool) × Unit) := runFn n E_leqDisk c_leqDisk [[.sl [.s, .s, .i .i64]], [.sl [.s, .s, .i .i64]]] [.b] [] [4] .no
noncomputable def g_leqDisk := f_leqDisk BIG
noncomputable def p_leqDisk : TSp := ⟨s_leqDisk, [[.sl [.s, .s, .i .i64]], [.sl [.s, .s, .i .i64]]], [.b], [], Ou.j .no, g_leqDisk⟩
theorem k_leqDisk : chkW PG E_leqDisk 64 s_leqDisk (c_leqDisk.ht 11) .no = some (c_leqDisk.wc E_leqDisk, [4]) := by kernel_rfl
theorem ok_leqDisk : p_leqDisk.Ok PG 64 := mkOk (env_cons ok_leqFileS (env_nil PG)) k_leqDisk (by kernel_rfl)
theorem e_leqDisk (n : Nat) (a0 : List (ByteArray × ByteArray × Int)) (a1 : List (ByteArray × ByteArray × Int)) : f_leqDisk n (a0, a1) =
  Option.bind (g_leqFileS (a0, a1)) fun r0 =>
  bif !r0.1 then
   some (false, ())
  else some (true, ()) := by kernel_rfl
/- laws.markText -/
def c_lmarkText : TC :=
 (.seq (.rg [o1 2 (.lit [.s] [.string ⟨#[]⟩])])
 (.seq (.seq (.rg [o1 4 (.copy 0),
   o1 5 (.data (.bin .leq) [.t 4, .c (.int .i64 (0))])])
 (.cond (.t 5)
  (.seq (.rg [o1 2 (.lit [.s] [.string ⟨#[109, 48]⟩])])
  .ret)
  .skip))
 (.seq (.rg [o1 3 (.lit [.s] [.string ⟨#[]⟩])])
 (.seq (.join [⟨3, [.s], false⟩] 262089 none (.block 0 (.loop [⟨3, [.s], false⟩, ⟨0, [.i .i64], false⟩] 262089
  (.seq (.seq (.rg [o1 6 (.copy 0),
    o1 7 (.data (.bin .gtr) [.t 6, .c (.int .i64 (0))])])
  (.cond (.t 7)
   .skip
   (.exit 0)))
  (.block 1 (.seq (.rg [o1 8 (.copy 0),
    o1 9 (.data (.bin .rem) [.t 8, .c (.int .i64 (10))]),
    o1 10 (.data (.bin .add) [.c (.int .i64 (48)), .t 9]),
    o1 11 (.data (.conv .u8) [.t 10]),
    o1 12 (.sli [.i .u8] [.t 11]),
    o1 13 (.bytes 12),
    o1 14 (.copy 3),
    o1 15 (.data (.bin .add) [.t 13, .t 14]),
    o1 3 (.copy 15)])
  (.rg [o1 16 (.copy 0),
    o1 17 (.data (.bin .quo) [.t 16, .c (.int .i64 (10))]),
    o1 0 (.copy 17)])))))))
 (.seq (.rg [o1 18 (.copy 3),
   o1 19 (.data (.bin .add) [.c (.string ⟨#[109]⟩), .t 18]),
   o1 2 (.copy 19)])
 .ret)))))
def s_lmarkText : Sig := ⟨[.rd false [.d]], (.one false [.d])⟩
noncomputable def E_lmarkText : TEnv := envOf []
noncomputable def f_lmarkText (n : Nat) : Int → Option ((ByteArray) × Unit) := runFn n E_lmarkText c_lmarkText [[.i .i64]] [.s] [] [2] .no
noncomputable def g_lmarkText := f_lmarkText BIG
noncomputable def p_lmarkText : TSp := ⟨s_lmarkText, [[.i .i64]], [.s], [], Ou.j .no, g_lmarkText⟩
theorem k_lmarkText : chkW PG E_lmarkText 161 s_lmarkText (c_lmarkText.ht 20) .no = some (c_lmarkText.wc E_lmarkText, [2]) := by kernel_rfl
theorem ok_lmarkText : p_lmarkText.Ok PG 161 := mkOk (env_nil PG) k_lmarkText (by kernel_rfl)
theorem e_lmarkText (n : Nat) (a0 : Int) : f_lmarkText n a0 =
  bif decide (a0 ≤ (0 : Int)) then
   some ((ByteArray.mk #[109, 48]), ())
  else Option.bind (loopT n (X := ByteArray × Int) (B := ByteArray) (fun self1 x0 =>
    bif decide ((0 : Int) < x0.2) then
     bif decide ((10 : Int) = 0) then
      none
     else bif decide ((bytesStr ([IntKind.wrap .u8 (IntKind.wrap .i64 ((48 : Int) + (Int.tmod x0.2 (10 : Int))))])).size + x0.1.size ≤ 4611686018427387904) then
      bif decide ((10 : Int) = 0) then
       none
      else self1 ((bytesStr ([IntKind.wrap .u8 (IntKind.wrap .i64 ((48 : Int) + (Int.tmod x0.2 (10 : Int))))])) ++ x0.1, IntKind.wrap .i64 (Int.tdiv x0.2 (10 : Int)))
     else none
    else some x0.1) ((ByteArray.mk #[]), a0) : Option (ByteArray)) fun x2 =>
  bif decide ((ByteArray.mk #[109]).size + x2.size ≤ 4611686018427387904) then
   some ((ByteArray.mk #[109]) ++ x2, ())
  else none := by kernel_rfl
/- laws.markFileS -/
def c_lmarkFileS : TC :=
 (.seq (.rg [o1 4 (.lit [.i .i64] [.int .i64 (0)])])
 (.seq (.join [⟨0, [.sl [.s, .s, .i .i64]], false⟩, ⟨1, [.i .i64], false⟩] 34359738339 none (.seq (.rg [o1 5 (.lit [.i .i64] [.int .i64 (0)])])
 (.block 0 (.loop [⟨0, [.sl [.s, .s, .i .i64]], false⟩, ⟨1, [.i .i64], false⟩, ⟨5, [.i .i64], false⟩] 34359738339
  (.seq (.seq (.rg [o1 6 (.copy 5),
    ⟨true, [], [], .det 1 (.copy 0), [7], (some 7), none⟩,
    o1 8 (.len 7),
    o1 9 (.data (.bin .lss) [.t 6, .t 8])])
  (.cond (.t 9)
   .skip
   (.exit 0)))
  (.seq (.block 1 (.seq (.rg [⟨true, [], [], .det 1 (.copy 0), [12], (some 12), none⟩,
    o1 13 (.copy 5),
    o1 14 (.copy 1),
    o3 15 161 [.t 14],
    o1 16 (.index 12 (.t 13)),
    o1 17 (.idx (.t 16)),
    o4 1 [0, 7, 12] (.store 0 [(0, 3)] 0 (.t 17) (.t 15))])
  (.seq (.rg [o1 18 (.copy 1),
    o1 19 (.data (.bin .add) [.t 18, .c (.int .i64 (1))]),
    o1 1 (.copy 19)])
  (.seq (.rg [⟨true, [], [], .det 1 (.copy 0), [20], (some 20), none⟩,
    o1 21 (.copy 5),
    o1 22 (.copy 1),
    o3 23 161 [.t 22],
    o1 24 (.index 20 (.t 21)),
    o1 25 (.idx (.t 24)),
    o4 1 [0, 20] (.store 0 [(0, 3)] 1 (.t 25) (.t 23))])
  (.seq (.rg [o1 26 (.copy 1),
    o1 27 (.data (.bin .add) [.t 26, .c (.int .i64 (1))]),
    o1 1 (.copy 27)])
  (.seq (.rg [⟨true, [], [], .det 1 (.copy 0), [28], (some 28), none⟩,
    o1 29 (.copy 5),
    o1 30 (.copy 1),
    o1 31 (.index 28 (.t 29)),
    o1 32 (.idx (.t 31)),
    o4 1 [0, 28] (.store 0 [(0, 3)] 2 (.t 32) (.t 30))])
  (.rg [o1 33 (.copy 1),
    o1 34 (.data (.bin .add) [.t 33, .c (.int .i64 (1))]),
    o1 1 (.copy 34)])))))))
  (.rg [o1 10 (.copy 5),
    o1 11 (.data (.bin .add) [.t 10, .c (.int .i64 (1))]),
    o1 5 (.copy 11)])))))))
 (.seq (.rg [o1 35 (.copy 1),
   o1 4 (.copy 35)])
 .ret)))
def s_lmarkFileS : Sig := ⟨[.mt false [.sl (.own none) [.d, .d, .d]], .rd false [.d]], (.one false [.d])⟩
noncomputable def E_lmarkFileS : TEnv := envOf [(161, p_lmarkText)]
noncomputable def f_lmarkFileS (n : Nat) : (List (ByteArray × ByteArray × Int)) × Int → Option ((Int) × List (ByteArray × ByteArray × Int)) := runFn n E_lmarkFileS c_lmarkFileS [[.sl [.s, .s, .i .i64]], [.i .i64]] [.i .i64] [.sl [.s, .s, .i .i64]] [4] (.mt 0 0 0)
noncomputable def g_lmarkFileS := f_lmarkFileS BIG
noncomputable def p_lmarkFileS : TSp := ⟨s_lmarkFileS, [[.sl [.s, .s, .i .i64]], [.i .i64]], [.i .i64], [.sl [.s, .s, .i .i64]], Ou.j (.mt 0 0 0), g_lmarkFileS⟩
theorem k_lmarkFileS : chkW PG E_lmarkFileS 160 s_lmarkFileS (c_lmarkFileS.ht 36) (.mt 0 0 0) = some (c_lmarkFileS.wc E_lmarkFileS, [4]) := by kernel_rfl
theorem ok_lmarkFileS : p_lmarkFileS.Ok PG 160 := mkOk (env_cons ok_lmarkText (env_nil PG)) k_lmarkFileS (by kernel_rfl)
theorem e_lmarkFileS (n : Nat) (a0 : List (ByteArray × ByteArray × Int)) (a1 : Int) : f_lmarkFileS n (a0, a1) =
  Option.bind (loopT n (X := (List (ByteArray × ByteArray × Int)) × Int × Int) (B := (List (ByteArray × ByteArray × Int)) × Int) (fun self1 x0 =>
    bif decide (x0.2.2 < (x0.1.length : Int)) then
     Option.bind (g_lmarkText x0.2.1) fun r2 =>
     bnd x0.1.length x0.2.2 fun n3 =>
     Option.bind x0.1[n3]? fun y4 =>
     Option.bind (g_lmarkText (IntKind.wrap .i64 (x0.2.1 + (1 : Int)))) fun r5 =>
     bnd (x0.1.set n3 (r2.1, y4.2)).length x0.2.2 fun n6 =>
     Option.bind (x0.1.set n3 (r2.1, y4.2))[n6]? fun y7 =>
     bnd ((x0.1.set n3 (r2.1, y4.2)).set n6 (y7.1, r5.1, y7.2.2)).length x0.2.2 fun n8 =>
     Option.bind ((x0.1.set n3 (r2.1, y4.2)).set n6 (y7.1, r5.1, y7.2.2))[n8]? fun y9 =>
     self1 (((x0.1.set n3 (r2.1, y4.2)).set n6 (y7.1, r5.1, y7.2.2)).set n8 (y9.1, y9.2.1, IntKind.wrap .i64 ((IntKind.wrap .i64 (x0.2.1 + (1 : Int))) + (1 : Int))), IntKind.wrap .i64 ((IntKind.wrap .i64 ((IntKind.wrap .i64 (x0.2.1 + (1 : Int))) + (1 : Int))) + (1 : Int)), IntKind.wrap .i64 (x0.2.2 + (1 : Int)))
    else some (x0.1, x0.2.1)) (a0, a1, (0 : Int)) : Option ((List (ByteArray × ByteArray × Int)) × Int)) fun x10 =>
  some (x10.2, x10.1) := by kernel_rfl
/- laws.markDisk -/
def c_lmarkDisk : TC :=
 (.seq (.rg [⟨false, [], [], .det 2 (.a (.t 0)), [2, 0], (some 2), none⟩,
   o1 4 (.lit [.i .i64] [.int .i64 (0)])])
 (.seq (.rg [o1 5 (.idx .nil),
   o1 6 (.load 2 [] 0 (.t 5) 1 true),
   o1 7 (.copy 1),
   ⟨false, [], [], .call 2 160 [.t 6, .t 7] (.mt 2 [] 0 6 0), [8, 2, 6], (some 8), none⟩,
   o1 1 (.copy 8)])
 (.seq (.rg [o1 9 (.copy 1),
   o1 4 (.copy 9)])
 .ret)))
def s_lmarkDisk : Sig := ⟨[.mt true [.sl (.own none) [.d, .d, .d]], .rd false [.d]], (.one false [.d])⟩
noncomputable def E_lmarkDisk : TEnv := envOf [(160, p_lmarkFileS)]
noncomputable def f_lmarkDisk (n : Nat) : (List (ByteArray × ByteArray × Int)) × Int → Option ((Int) × List (ByteArray × ByteArray × Int)) := runFn n E_lmarkDisk c_lmarkDisk [[.sl [.s, .s, .i .i64]], [.i .i64]] [.i .i64] [.sl [.s, .s, .i .i64]] [4] (.mt 0 2 0)
noncomputable def g_lmarkDisk := f_lmarkDisk BIG
noncomputable def p_lmarkDisk : TSp := ⟨s_lmarkDisk, [[.sl [.s, .s, .i .i64]], [.i .i64]], [.i .i64], [.sl [.s, .s, .i .i64]], Ou.j (.mt 0 2 0), g_lmarkDisk⟩
theorem k_lmarkDisk : chkW PG E_lmarkDisk 65 s_lmarkDisk (c_lmarkDisk.ht 10) (.mt 0 2 0) = some (c_lmarkDisk.wc E_lmarkDisk, [4]) := by kernel_rfl
theorem ok_lmarkDisk : p_lmarkDisk.Ok PG 65 := mkOk (env_cons ok_lmarkFileS (env_nil PG)) k_lmarkDisk (by kernel_rfl)
theorem e_lmarkDisk (n : Nat) (a0 : List (ByteArray × ByteArray × Int)) (a1 : Int) : f_lmarkDisk n (a0, a1) =
  Option.bind (g_lmarkFileS (a0, a1)) fun r0 =>
  some (r0.1, r0.2) := by kernel_rfl
/- laws.markActS -/
def c_lmarkActS : TC :=
 (.seq (.rg [o1 4 (.lit [.i .i64] [.int .i64 (0)])])
 (.seq (.join [⟨0, [.sl [.i .i64, .s, .s, .s]], false⟩, ⟨1, [.i .i64], false⟩] 8796093022179 none (.seq (.rg [o1 5 (.lit [.i .i64] [.int .i64 (0)])])
 (.block 0 (.loop [⟨0, [.sl [.i .i64, .s, .s, .s]], false⟩, ⟨1, [.i .i64], false⟩, ⟨5, [.i .i64], false⟩] 8796093022179
  (.seq (.seq (.rg [o1 6 (.copy 5),
    ⟨true, [], [], .det 1 (.copy 0), [7], (some 7), none⟩,
    o1 8 (.len 7),
    o1 9 (.data (.bin .lss) [.t 6, .t 8])])
  (.cond (.t 9)
   .skip
   (.exit 0)))
  (.seq (.block 1 (.seq (.rg [⟨true, [], [], .det 1 (.copy 0), [12], (some 12), none⟩,
    o1 13 (.copy 5),
    o1 14 (.copy 1),
    o1 15 (.index 12 (.t 13)),
    o1 16 (.idx (.t 15)),
    o4 1 [0, 7, 12] (.store 0 [(0, 4)] 0 (.t 16) (.t 14))])
  (.seq (.rg [o1 17 (.copy 1),
    o1 18 (.data (.bin .add) [.t 17, .c (.int .i64 (1))]),
    o1 1 (.copy 18)])
  (.seq (.rg [⟨true, [], [], .det 1 (.copy 0), [19], (some 19), none⟩,
    o1 20 (.copy 5),
    o1 21 (.copy 1),
    o3 22 161 [.t 21],
    o1 23 (.index 19 (.t 20)),
    o1 24 (.idx (.t 23)),
    o4 1 [0, 19] (.store 0 [(0, 4)] 1 (.t 24) (.t 22))])
  (.seq (.rg [o1 25 (.copy 1),
    o1 26 (.data (.bin .add) [.t 25, .c (.int .i64 (1))]),
    o1 1 (.copy 26)])
  (.seq (.rg [⟨true, [], [], .det 1 (.copy 0), [27], (some 27), none⟩,
    o1 28 (.copy 5),
    o1 29 (.copy 1),
    o3 30 161 [.t 29],
    o1 31 (.index 27 (.t 28)),
    o1 32 (.idx (.t 31)),
    o4 1 [0, 27] (.store 0 [(0, 4)] 2 (.t 32) (.t 30))])
  (.seq (.rg [o1 33 (.copy 1),
    o1 34 (.data (.bin .add) [.t 33, .c (.int .i64 (1))]),
    o1 1 (.copy 34)])
  (.seq (.rg [⟨true, [], [], .det 1 (.copy 0), [35], (some 35), none⟩,
    o1 36 (.copy 5),
    o1 37 (.copy 1),
    o3 38 161 [.t 37],
    o1 39 (.index 35 (.t 36)),
    o1 40 (.idx (.t 39)),
    o4 1 [0, 35] (.store 0 [(0, 4)] 3 (.t 40) (.t 38))])
  (.rg [o1 41 (.copy 1),
    o1 42 (.data (.bin .add) [.t 41, .c (.int .i64 (1))]),
    o1 1 (.copy 42)])))))))))
  (.rg [o1 10 (.copy 5),
    o1 11 (.data (.bin .add) [.t 10, .c (.int .i64 (1))]),
    o1 5 (.copy 11)])))))))
 (.seq (.rg [o1 43 (.copy 1),
   o1 4 (.copy 43)])
 .ret)))
def s_lmarkActS : Sig := ⟨[.mt false [.sl (.own none) [.d, .d, .d, .d]], .rd false [.d]], (.one false [.d])⟩
noncomputable def E_lmarkActS : TEnv := envOf [(161, p_lmarkText)]
noncomputable def f_lmarkActS (n : Nat) : (List (Int × ByteArray × ByteArray × ByteArray)) × Int → Option ((Int) × List (Int × ByteArray × ByteArray × ByteArray)) := runFn n E_lmarkActS c_lmarkActS [[.sl [.i .i64, .s, .s, .s]], [.i .i64]] [.i .i64] [.sl [.i .i64, .s, .s, .s]] [4] (.mt 0 0 0)
noncomputable def g_lmarkActS := f_lmarkActS BIG
noncomputable def p_lmarkActS : TSp := ⟨s_lmarkActS, [[.sl [.i .i64, .s, .s, .s]], [.i .i64]], [.i .i64], [.sl [.i .i64, .s, .s, .s]], Ou.j (.mt 0 0 0), g_lmarkActS⟩
theorem k_lmarkActS : chkW PG E_lmarkActS 66 s_lmarkActS (c_lmarkActS.ht 44) (.mt 0 0 0) = some (c_lmarkActS.wc E_lmarkActS, [4]) := by kernel_rfl
theorem ok_lmarkActS : p_lmarkActS.Ok PG 66 := mkOk (env_cons ok_lmarkText (env_nil PG)) k_lmarkActS (by kernel_rfl)
theorem e_lmarkActS (n : Nat) (a0 : List (Int × ByteArray × ByteArray × ByteArray)) (a1 : Int) : f_lmarkActS n (a0, a1) =
  Option.bind (loopT n (X := (List (Int × ByteArray × ByteArray × ByteArray)) × Int × Int) (B := (List (Int × ByteArray × ByteArray × ByteArray)) × Int) (fun self1 x0 =>
    bif decide (x0.2.2 < (x0.1.length : Int)) then
     bnd x0.1.length x0.2.2 fun n2 =>
     Option.bind x0.1[n2]? fun y3 =>
     Option.bind (g_lmarkText (IntKind.wrap .i64 (x0.2.1 + (1 : Int)))) fun r4 =>
     bnd (x0.1.set n2 (x0.2.1, y3.2)).length x0.2.2 fun n5 =>
     Option.bind (x0.1.set n2 (x0.2.1, y3.2))[n5]? fun y6 =>
     Option.bind (g_lmarkText (IntKind.wrap .i64 ((IntKind.wrap .i64 (x0.2.1 + (1 : Int))) + (1 : Int)))) fun r7 =>
     bnd ((x0.1.set n2 (x0.2.1, y3.2)).set n5 (y6.1, r4.1, y6.2.2)).length x0.2.2 fun n8 =>
     Option.bind ((x0.1.set n2 (x0.2.1, y3.2)).set n5 (y6.1, r4.1, y6.2.2))[n8]? fun y9 =>
     Option.bind (g_lmarkText (IntKind.wrap .i64 ((IntKind.wrap .i64 ((IntKind.wrap .i64 (x0.2.1 + (1 : Int))) + (1 : Int))) + (1 : Int)))) fun r10 =>
     bnd (((x0.1.set n2 (x0.2.1, y3.2)).set n5 (y6.1, r4.1, y6.2.2)).set n8 (y9.1, y9.2.1, r7.1, y9.2.2.2)).length x0.2.2 fun n11 =>
     Option.bind (((x0.1.set n2 (x0.2.1, y3.2)).set n5 (y6.1, r4.1, y6.2.2)).set n8 (y9.1, y9.2.1, r7.1, y9.2.2.2))[n11]? fun y12 =>
     self1 ((((x0.1.set n2 (x0.2.1, y3.2)).set n5 (y6.1, r4.1, y6.2.2)).set n8 (y9.1, y9.2.1, r7.1, y9.2.2.2)).set n11 (y12.1, y12.2.1, y12.2.2.1, r10.1), IntKind.wrap .i64 ((IntKind.wrap .i64 ((IntKind.wrap .i64 ((IntKind.wrap .i64 (x0.2.1 + (1 : Int))) + (1 : Int))) + (1 : Int))) + (1 : Int)), IntKind.wrap .i64 (x0.2.2 + (1 : Int)))
    else some (x0.1, x0.2.1)) (a0, a1, (0 : Int)) : Option ((List (Int × ByteArray × ByteArray × ByteArray)) × Int)) fun x13 =>
  some (x13.2, x13.1) := by kernel_rfl
/- laws.heldActS -/
def c_lheldActS : TC :=
 (.seq (.rg [o1 4 (.lit [.i .i64] [.int .i64 (0)])])
 (.seq (.join [⟨1, [.i .i64], false⟩] 2251799813685234 (some [⟨4, [.i .i64], false⟩]) (.seq (.rg [o1 5 (.lit [.i .i64] [.int .i64 (0)])])
 (.block 0 (.loop [⟨1, [.i .i64], false⟩, ⟨5, [.i .i64], false⟩] 2251799813685234
  (.seq (.seq (.rg [o1 6 (.copy 5),
    o1 7 (.copy 0),
    o1 8 (.len 7),
    o1 9 (.data (.bin .lss) [.t 6, .t 8])])
  (.cond (.t 9)
   .skip
   (.exit 0)))
  (.seq (.block 1 (.seq (.seq (.rg [o1 12 (.copy 0),
    o1 13 (.copy 5),
    o1 14 (.index 12 (.t 13)),
    o1 15 (.idx (.t 14)),
    o1 16 (.load 12 [(0, 4)] 0 (.t 15) 1 false),
    o1 17 (.copy 1),
    o1 18 (.data (.bin .neq) [.t 16, .t 17])])
  (.cond (.t 18)
   (.seq (.rg [o1 4 (.lit [.i .i64] [.int .i64 (-1)])])
   .ret)
   .skip))
  (.seq (.rg [o1 19 (.copy 1),
    o1 20 (.data (.bin .add) [.t 19, .c (.int .i64 (1))]),
    o1 1 (.copy 20)])
  (.seq (.seq (.rg [o1 21 (.copy 0),
    o1 22 (.copy 5),
    o1 23 (.index 21 (.t 22)),
    o1 24 (.idx (.t 23)),
    o1 25 (.load 21 [(0, 4)] 1 (.t 24) 1 false),
    o1 26 (.copy 1),
    o3 27 161 [.t 26],
    o1 28 (.data (.bin .neq) [.t 25, .t 27])])
  (.cond (.t 28)
   (.seq (.rg [o1 4 (.lit [.i .i64] [.int .i64 (-1)])])
   .ret)
   .skip))
  (.seq (.rg [o1 29 (.copy 1),
    o1 30 (.data (.bin .add) [.t 29, .c (.int .i64 (1))]),
    o1 1 (.copy 30)])
  (.seq (.seq (.rg [o1 31 (.copy 0),
    o1 32 (.copy 5),
    o1 33 (.index 31 (.t 32)),
    o1 34 (.idx (.t 33)),
    o1 35 (.load 31 [(0, 4)] 2 (.t 34) 1 false),
    o1 36 (.copy 1),
    o3 37 161 [.t 36],
    o1 38 (.data (.bin .neq) [.t 35, .t 37])])
  (.cond (.t 38)
   (.seq (.rg [o1 4 (.lit [.i .i64] [.int .i64 (-1)])])
   .ret)
   .skip))
  (.seq (.rg [o1 39 (.copy 1),
    o1 40 (.data (.bin .add) [.t 39, .c (.int .i64 (1))]),
    o1 1 (.copy 40)])
  (.seq (.seq (.rg [o1 41 (.copy 0),
    o1 42 (.copy 5),
    o1 43 (.index 41 (.t 42)),
    o1 44 (.idx (.t 43)),
    o1 45 (.load 41 [(0, 4)] 3 (.t 44) 1 false),
    o1 46 (.copy 1),
    o3 47 161 [.t 46],
    o1 48 (.data (.bin .neq) [.t 45, .t 47])])
  (.cond (.t 48)
   (.seq (.rg [o1 4 (.lit [.i .i64] [.int .i64 (-1)])])
   .ret)
   .skip))
  (.rg [o1 49 (.copy 1),
    o1 50 (.data (.bin .add) [.t 49, .c (.int .i64 (1))]),
    o1 1 (.copy 50)])))))))))
  (.rg [o1 10 (.copy 5),
    o1 11 (.data (.bin .add) [.t 10, .c (.int .i64 (1))]),
    o1 5 (.copy 11)])))))))
 (.seq (.rg [o1 51 (.copy 1),
   o1 4 (.copy 51)])
 .ret)))
def s_lheldActS : Sig := ⟨[.rd false [.sl (.own none) [.d, .d, .d, .d]], .rd false [.d]], (.one false [.d])⟩
noncomputable def E_lheldActS : TEnv := envOf [(161, p_lmarkText)]
noncomputable def f_lheldActS (n : Nat) : (List (Int × ByteArray × ByteArray × ByteArray)) × Int → Option ((Int) × Unit) := runFn n E_lheldActS c_lheldActS [[.sl [.i .i64, .s, .s, .s]], [.i .i64]] [.i .i64] [] [4] .no
noncomputable def g_lheldActS := f_lheldActS BIG
noncomputable def p_lheldActS : TSp := ⟨s_lheldActS, [[.sl [.i .i64, .s, .s, .s]], [.i .i64]], [.i .i64], [], Ou.j .no, g_lheldActS⟩
theorem k_lheldActS : chkW PG E_lheldActS 67 s_lheldActS (c_lheldActS.ht 52) .no = some (c_lheldActS.wc E_lheldActS, [4]) := by kernel_rfl
theorem ok_lheldActS : p_lheldActS.Ok PG 67 := mkOk (env_cons ok_lmarkText (env_nil PG)) k_lheldActS (by kernel_rfl)
theorem e_lheldActS (n : Nat) (a0 : List (Int × ByteArray × ByteArray × ByteArray)) (a1 : Int) : f_lheldActS n (a0, a1) =
  Option.bind (loopT n (X := Int × Int) (B := (Int) ⊕ (Int)) (fun self1 x0 =>
    bif decide (x0.2 < (a0.length : Int)) then
     bnd a0.length x0.2 fun n2 =>
     Option.bind a0[n2]? fun y3 =>
     bif !decide (y3.1 = x0.1) then
      some (Sum.inr (-1 : Int))
     else bnd a0.length x0.2 fun n4 =>
     Option.bind a0[n4]? fun y5 =>
     Option.bind (g_lmarkText (IntKind.wrap .i64 (x0.1 + (1 : Int)))) fun r6 =>
     bif !(y5.2.1.toList == r6.1.toList) then
      some (Sum.inr (-1 : Int))
     else bnd a0.length x0.2 fun n7 =>
     Option.bind a0[n7]? fun y8 =>
     Option.bind (g_lmarkText (IntKind.wrap .i64 ((IntKind.wrap .i64 (x0.1 + (1 : Int))) + (1 : Int)))) fun r9 =>
     bif !(y8.2.2.1.toList == r9.1.toList) then
      some (Sum.inr (-1 : Int))
     else bnd a0.length x0.2 fun n10 =>
     Option.bind a0[n10]? fun y11 =>
     Option.bind (g_lmarkText (IntKind.wrap .i64 ((IntKind.wrap .i64 ((IntKind.wrap .i64 (x0.1 + (1 : Int))) + (1 : Int))) + (1 : Int)))) fun r12 =>
     bif !(y11.2.2.2.toList == r12.1.toList) then
      some (Sum.inr (-1 : Int))
     else self1 (IntKind.wrap .i64 ((IntKind.wrap .i64 ((IntKind.wrap .i64 ((IntKind.wrap .i64 (x0.1 + (1 : Int))) + (1 : Int))) + (1 : Int))) + (1 : Int)), IntKind.wrap .i64 (x0.2 + (1 : Int)))
    else some (Sum.inl x0.1)) (a1, (0 : Int)) : Option ((Int) ⊕ (Int))) fun y => match y with
  | .inl x13 =>
   some (x13, ())
  | .inr x13 =>
   some (x13, ()) := by kernel_rfl
/- laws.FnExactMendActs -/
def c_lFnExactMendActs : TC :=
 (.seq (.rg [o1 2 (.a (.t 0)),
   o1 4 (.lit [.b] [.bool false])])
 (.seq (.rg [o1 5 (.lit [.i .i64] [.int .i64 (1048576)])])
 (.seq (.rg [o1 16 (.load 2 [] 0 .nil 1 false),
   o1 17 (.copy 5),
   o3 18 59 [.t 16, .t 17],
   o1 5 (.copy 18)])
 (.seq (.seq (.rg [o1 19 (.copy 5),
   o1 20 (.data (.bin .lss) [.t 19, .c (.int .i64 (0))])])
 (.cond (.t 20)
  (.seq (.rg [o1 4 (.lit [.b] [.bool true])])
  .ret)
  .skip))
 (.seq (.rg [o1 22 (.load 2 [] 0 .nil 1 false),
   o3 23 61 [.t 22],
   o1 24 (.copy 1),
   o3 25 60 [.t 23, .t 24],
   ⟨false, [], [], .det 2 (.copy 25), [21, 25], (some 21), none⟩,
   ⟨false, [], [], .det 2 (.ext 21 0 1), [26, 21], (some 26), none⟩,
   o1 27 (.ext 21 1 1),
   ⟨false, [], [], .det 2 (.copy 26), [6, 26], (some 6), none⟩,
   o1 7 (.copy 27)])
 (.seq (.rg [o1 28 (.load 2 [] 0 .nil 1 false),
   o3 29 61 [.t 28],
   ⟨false, [], [], .det 2 (.a (.c [.sl [.s, .s, .i .i64]] [.slice none 0 0])), [8, 1000000001], (some 8), none⟩,
   o4 2 [8, 29] (.store 8 [] 0 .nil (.t 29))])
 (.seq (.rg [o1 31 (.load 8 [] 0 .nil 1 true),
   o1 32 (.copy 1),
   o3 33 62 [.t 31, .t 32],
   ⟨false, [], [], .det 2 (.copy 33), [30, 33], (some 30), none⟩,
   ⟨false, [], [], .det 2 (.ext 30 0 1), [34, 30], (some 34), none⟩,
   o1 35 (.ext 30 1 1),
   ⟨false, [], [], .det 2 (.copy 34), [9, 34], (some 9), none⟩,
   o1 10 (.copy 35)])
 (.seq (.seq (.join [⟨44, [.b], false⟩] 35115652612096 none (.rg [⟨true, [], [], .det 1 (.copy 9), [36], (some 36), none⟩,
   ⟨true, [], [], .det 1 (.copy 6), [37], (some 37), none⟩,
   o3 38 63 [.t 36, .t 37],
   o1 39 (.data .not [.t 38]),
   o1 40 (.copy 39),
   o2 41 (.copy 10) 4 false,
   o2 42 (.copy 7) 4 false,
   o2 43 (.data (.beq true) [.t 41, .t 42]) 4 false,
   ⟨false, [], [], .pick 40 (.c (.bool true)) (.t 43), [44], (some 44), none⟩]))
 (.cond (.t 44)
  (.seq (.rg [o1 4 (.lit [.b] [.bool false])])
  .ret)
  .skip))
 (.seq (.seq (.rg [o1 45 (.load 8 [] 0 .nil 1 true),
   o1 46 (.load 2 [] 0 .nil 1 false),
   o3 47 61 [.t 46],
   o3 48 64 [.t 45, .t 47],
   o1 49 (.data .not [.t 48])])
 (.cond (.t 49)
  (.seq (.rg [o1 4 (.lit [.b] [.bool false])])
  .ret)
  .skip))
 (.seq (.rg [o1 11 (.lit [.i .i64] [.int .i64 (1)])])
 (.seq (.rg [o1 50 (.load 8 [] 0 .nil 1 true),
   o1 51 (.copy 11),
   ⟨false, [], [], .call 2 65 [.t 50, .t 51] (.mt 8 [] 0 50 0), [52, 8, 31, 45, 50], (some 52), none⟩,
   o1 11 (.copy 52)])
 (.seq (.seq (.join [⟨65, [.b], false⟩] 73777969095583465472 none (.rg [o1 53 (.copy 11),
   o1 54 (.data (.bin .lss) [.t 53, .c (.int .i64 (0))]),
   o1 55 (.copy 54),
   ⟨true, [], [], .det 1 (.copy 9), [56], (some 56), some (2, false)⟩,
   ⟨true, [], [], .det 1 (.copy 6), [57], (some 57), some (2, false)⟩,
   ⟨false, [], [], .call 1 63 [.t 56, .t 57] .no, [58], (some 58), some (2, false)⟩,
   o2 59 (.data .not [.t 58]) 2 false,
   ⟨false, [], [], .pick 55 (.c (.bool true)) (.t 59), [60], (some 60), none⟩,
   o1 61 (.copy 60),
   o2 62 (.copy 10) 8 false,
   o2 63 (.copy 7) 8 false,
   o2 64 (.data (.beq true) [.t 62, .t 63]) 8 false,
   ⟨false, [], [], .pick 61 (.c (.bool true)) (.t 64), [65], (some 65), none⟩]))
 (.cond (.t 65)
  (.seq (.rg [o1 4 (.lit [.b] [.bool false])])
  .ret)
  .skip))
 (.seq (.rg [o1 12 (.lit [.i .i64] [.int .i64 (1)])])
 (.seq (.rg [⟨true, [], [], .det 1 (.copy 9), [66], (some 66), none⟩,
   o1 67 (.copy 12),
   ⟨false, [], [], .call 2 66 [.t 66, .t 67] (.mt 9 [] 0 66 0), [68, 9, 36, 66], (some 68), none⟩,
   o1 12 (.copy 68)])
 (.seq (.rg [o1 13 (.lit [.i .i64] [.int .i64 (1)])])
 (.seq (.rg [⟨true, [], [], .det 1 (.copy 9), [69], (some 69), none⟩,
   o1 70 (.copy 13),
   o3 71 67 [.t 69, .t 70],
   o1 13 (.copy 71)])
 (.seq (.seq (.rg [o1 72 (.copy 13),
   o1 73 (.data (.bin .lss) [.t 72, .c (.int .i64 (0))])])
 (.cond (.t 73)
  (.seq (.rg [o1 4 (.lit [.b] [.bool false])])
  .ret)
  .skip))
 (.seq (.seq (.rg [o1 74 (.copy 13),
   o1 75 (.copy 12),
   o1 76 (.data (.bin .neq) [.t 74, .t 75])])
 (.cond (.t 76)
  (.seq (.rg [o1 4 (.lit [.b] [.bool false])])
  .ret)
  .skip))
 (.seq (.rg [o1 78 (.load 2 [] 0 .nil 1 false),
   o3 79 61 [.t 78],
   o1 80 (.copy 1),
   o3 81 62 [.t 79, .t 80],
   ⟨false, [], [], .det 2 (.copy 81), [77, 81], (some 77), none⟩,
   ⟨false, [], [], .det 2 (.ext 77 0 1), [82, 77], (some 82), none⟩,
   o1 83 (.ext 77 1 1),
   ⟨false, [], [], .det 2 (.copy 82), [14, 82], (some 14), none⟩,
   o1 15 (.copy 83)])
 (.seq (.seq (.join [⟨92, [.b], false⟩] 9884177501169208269836664896 none (.rg [⟨false, [], [], .det 2 (.copy 14), [84, 14], (some 84), none⟩,
   ⟨false, [], [], .det 2 (.copy 6), [85, 6, 37], (some 85), none⟩,
   o3 86 63 [.t 84, .t 85],
   o1 87 (.data .not [.t 86]),
   o1 88 (.copy 87),
   o2 89 (.copy 15) 4 false,
   o2 90 (.copy 7) 4 false,
   o2 91 (.data (.beq true) [.t 89, .t 90]) 4 false,
   ⟨false, [], [], .pick 88 (.c (.bool true)) (.t 91), [92], (some 92), none⟩]))
 (.cond (.t 92)
  (.seq (.rg [o1 4 (.lit [.b] [.bool false])])
  .ret)
  .skip))
 (.seq (.rg [o1 13 (.lit [.i .i64] [.int .i64 (1)])])
 (.seq (.rg [⟨false, [], [], .det 2 (.copy 9), [93, 9, 69], (some 93), none⟩,
   o1 94 (.copy 13),
   o3 95 67 [.t 93, .t 94],
   o1 13 (.copy 95)])
 (.seq (.seq (.rg [o1 96 (.copy 13),
   o1 97 (.data (.bin .lss) [.t 96, .c (.int .i64 (0))])])
 (.cond (.t 97)
  (.seq (.rg [o1 4 (.lit [.b] [.bool false])])
  .ret)
  .skip))
 (.seq (.seq (.rg [o1 98 (.copy 13),
   o1 99 (.copy 12),
   o1 100 (.data (.bin .neq) [.t 98, .t 99])])
 (.cond (.t 100)
  (.seq (.rg [o1 4 (.lit [.b] [.bool false])])
  .ret)
  .skip))
 (.seq (.rg [o1 4 (.lit [.b] [.bool true])])
 .ret)))))))))))))))))))))))))
def s_lFnExactMendActs : Sig := ⟨[.rd true [.sl (.own none) [.d, .d, .d]], .rd false [.d]], (.one false [.d])⟩
noncomputable def E_lFnExactMendActs : TEnv := envOf [(59, p_lszDisk), (61, p_ltoDisk), (60, p_sMendActs), (62, p_iMendActs), (63, p_leqActS), (64, p_leqDisk), (65, p_lmarkDisk), (66, p_lmarkActS), (67, p_lheldActS)]
noncomputable def f_lFnExactMendActs (n : Nat) : (List (ByteArray × ByteArray × Int)) × Int → Option ((Bool) × Unit) := runFn n E_lFnExactMendActs c_lFnExactMendActs [[.sl [.s, .s, .i .i64]], [.i .i64]] [.b] [] [4] .no
noncomputable def g_lFnExactMendActs := f_lFnExactMendActs BIG
noncomputable def p_lFnExactMendActs : TSp := ⟨s_lFnExactMendActs, [[.sl [.s, .s, .i .i64]], [.i .i64]], [.b], [], Ou.j .no, g_lFnExactMendActs⟩
theorem k_lFnExactMendActs : chkW PG E_lFnExactMendActs 12 s_lFnExactMendActs (c_lFnExactMendActs.ht 101) .no = some (c_lFnExactMendActs.wc E_lFnExactMendActs, [4]) := by kernel_rfl
theorem ok_lFnExactMendActs : p_lFnExactMendActs.Ok PG 12 := mkOk (env_cons ok_lszDisk (env_cons ok_ltoDisk (env_cons ok_sMendActs (env_cons ok_iMendActs (env_cons ok_leqActS (env_cons ok_leqDisk (env_cons ok_lmarkDisk (env_cons ok_lmarkActS (env_cons ok_lheldActS (env_nil PG)))))))))) k_lFnExactMendActs (by kernel_rfl)
theorem e_lFnExactMendActs (n : Nat) (a0 : List (ByteArray × ByteArray × Int)) (a1 : Int) : f_lFnExactMendActs n (a0, a1) =
  Option.bind (g_lszDisk (a0, (1048576 : Int))) fun r0 =>
  bif decide (r0.1 < (0 : Int)) then
   some (true, ())
  else Option.bind (g_ltoDisk a0) fun r1 =>
  Option.bind (g_sMendActs (r1.1, a1)) fun r2 =>
  Option.bind (g_ltoDisk a0) fun r3 =>
  Option.bind (g_iMendActs (r3.1, a1)) fun r4 =>
  Option.bind (Option.bind (g_leqActS (r4.1.1, r2.1.1)) fun r5 =>
   bif !r5.1 then
    some true
   else some (!(r4.1.2 == r2.1.2)) : Option (Bool)) fun x6 =>
  bif x6 then
   some (false, ())
  else Option.bind (g_ltoDisk a0) fun r7 =>
  Option.bind (g_leqDisk (r3.1, r7.1)) fun r8 =>
  bif !r8.1 then
   some (false, ())
  else Option.bind (g_lmarkDisk (r3.1, (1 : Int))) fun r9 =>
  Option.bind (bif decide (r9.1 < (0 : Int)) then
    some true
   else Option.bind (g_leqActS (r4.1.1, r2.1.1)) fun r10 =>
   bif !r10.1 then
    some true
   else some (!(r4.1.2 == r2.1.2)) : Option (Bool)) fun x11 =>
  bif x11 then
   some (false, ())
  else Option.bind (g_lmarkActS (r4.1.1, (1 : Int))) fun r12 =>
  Option.bind (g_lheldActS (r12.2, (1 : Int))) fun r13 =>
  bif decide (r13.1 < (0 : Int)) then
   some (false, ())
  else bif !decide (r13.1 = r12.1) then
   some (false, ())
  else Option.bind (g_ltoDisk a0) fun r14 =>
  Option.bind (g_iMendActs (r14.1, a1)) fun r15 =>
  Option.bind (Option.bind (g_leqActS (r15.1.1, r2.1.1)) fun r16 =>
   bif !r16.1 then
    some true
   else some (!(r15.1.2 == r2.1.2)) : Option (Bool)) fun x17 =>
  bif x17 then
   some (false, ())
  else Option.bind (g_lheldActS (r12.2, (1 : Int))) fun r18 =>
  bif decide (r18.1 < (0 : Int)) then
   some (false, ())
  else bif !decide (r18.1 = r12.1) then
   some (false, ())
  else some (true, ()) := by kernel_rfl
end Go.Fw
