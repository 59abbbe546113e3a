/- The given functions, as what they compute; each is shown to be what the code does. No conditions. -/
import Derived.Test.YthgfbaannligeaaG4
import Derived.Test.YthgfbaannligeaaProg
set_option linter.unusedVariables false
set_option linter.unusedSimpArgs false
namespace Go.Fw
noncomputable abbrev PG := Go.Proofs.Try.prog
def o2 (d : Nat) (e : ED) (j : Nat) (b : Bool) : TO := ⟨false, [], [], .det 1 e, [d], some d, some (j, b)⟩
def o3 (d : Nat) (K : FuncId) (gets : List OY) : TO := ⟨false, [], [], .call 1 K gets .no, [d], some d, none⟩
def o4 (n : Nat) (ds : List Nat) (e : ED) : TO := ⟨false, [], [], .det n e, ds, none, none⟩
end Go.Fw
namespace Go.Fw
/- spec.l01In -/
def c_sl01In : TC :=
 (.seq (.rg [o1 6 (.lit [.b] [.bool false])])
 (.seq (.join [⟨6, [.b], false⟩] 32704 none (.rg [o1 7 (.copy 0),
   o1 8 (.copy 1),
   o1 9 (.data (.bin .geq) [.t 7, .t 8]),
   o1 10 (.copy 9),
   o2 11 (.copy 0) 3 true,
   o2 12 (.copy 2) 3 true,
   o2 13 (.data (.bin .leq) [.t 11, .t 12]) 3 true,
   ⟨false, [], [], .pick 10 (.t 13) (.c (.bool false)), [14], (some 14), none⟩,
   o1 6 (.copy 14)]))
 .ret))
def s_sl01In : Sig := ⟨[.rd false [.d], .rd false [.d], .rd false [.d]], (.one false [.d])⟩
noncomputable def E_sl01In : TEnv := envOf []
noncomputable def f_sl01In (n : Nat) : Int × Int × Int → Option ((Bool) × Unit) := runFn n E_sl01In c_sl01In [[.i .i64], [.i .i64], [.i .i64]] [.b] [] [6] .no
noncomputable def g_sl01In := f_sl01In BIG
noncomputable def p_sl01In : TSp := ⟨s_sl01In, [[.i .i64], [.i .i64], [.i .i64]], [.b], [], Ou.j .no, g_sl01In⟩
theorem k_sl01In : chkW PG E_sl01In 163 s_sl01In (c_sl01In.ht 15) .no = some (c_sl01In.wc E_sl01In, [6]) := by kernel_rfl
theorem ok_sl01In : p_sl01In.Ok PG 163 := mkOk (env_nil PG) k_sl01In (by kernel_rfl)
theorem e_sl01In (n : Nat) (a0 : Int) (a1 : Int) (a2 : Int) : f_sl01In n (a0, a1, a2) =
  Option.bind (bif decide (a1 ≤ a0) then
    some (decide (a0 ≤ a2))
   else some false : Option (Bool)) fun x0 =>
  some (x0, ()) := by kernel_rfl
/- spec.WebNew -/
def c_sWebNew : TC :=
 (.seq (.rg [⟨false, [], [], .det 2 (.a (.c [.i .i64, .sl [.i .i64, .i .i64, .i .i64, .b]] [.int .i64 (0), .slice none 0 0])), [2, 1000000001], (some 2), none⟩,
   o1 3 (.lit [.b] [.bool false])])
 (.seq (.seq (.rg [o1 4 (.copy 0),
   o3 5 163 [.t 4, .c [.i .i64] [.int .i64 (1)], .c [.i .i64] [.int .i64 (12)]],
   o1 6 (.data .not [.t 5])])
 (.cond (.t 6)
  (.seq (.rg [o1 7 (.build [.i .i64, .sl [.i .i64, .i .i64, .i .i64, .b]] []),
    o4 2 [2, 7] (.store 2 [] 0 .nil (.t 7)),
    o1 3 (.lit [.b] [.bool false])])
  .ret)
  .skip))
 (.seq (.rg [o1 8 (.copy 0),
   o1 9 (.build [.i .i64, .sl [.i .i64, .i .i64, .i .i64, .b]] [(0, .t 8)]),
   o4 2 [2, 9] (.store 2 [] 0 .nil (.t 9)),
   o1 3 (.lit [.b] [.bool true])])
 .ret)))
def s_sWebNew : Sig := ⟨[.rd false [.d]], (.tup [(true, 2), (false, 1)] [.d, .sl (.own none) [.d, .d, .d, .d], .d])⟩
noncomputable def E_sWebNew : TEnv := envOf [(163, p_sl01In)]
noncomputable def f_sWebNew (n : Nat) : Int → Option ((Int × List (Int × Int × Int × Bool) × Bool) × Unit) := runFn n E_sWebNew c_sWebNew [[.i .i64]] [.i .i64, .sl [.i .i64, .i .i64, .i .i64, .b], .b] [] [2, 3] .no
noncomputable def g_sWebNew := f_sWebNew BIG
noncomputable def p_sWebNew : TSp := ⟨s_sWebNew, [[.i .i64]], [.i .i64, .sl [.i .i64, .i .i64, .i .i64, .b], .b], [], Ou.j .no, g_sWebNew⟩
theorem k_sWebNew : chkW PG E_sWebNew 162 s_sWebNew (c_sWebNew.ht 10) .no = some (c_sWebNew.wc E_sWebNew, [2, 3]) := by kernel_rfl
theorem ok_sWebNew : p_sWebNew.Ok PG 162 := mkOk (env_cons ok_sl01In (env_nil PG)) k_sWebNew (by kernel_rfl)
theorem e_sWebNew (n : Nat) (a0 : Int) : f_sWebNew n a0 =
  Option.bind (g_sl01In (a0, (1 : Int), (12 : Int))) fun r0 =>
  bif !r0.1 then
   some (((0 : Int), [], false), ())
  else some ((a0, [], true), ()) := by kernel_rfl
/- spec.ShardNew -/
def c_sShardNew : TC :=
 (.seq (.rg [⟨false, [], [], .det 2 (.a (.c [.i .i64, .i .i64, .sl [.i .i64, .i .i64, .i .i64, .b], .i .i64, .b, .sl [.i .i64, .i .i64], .sl [.i .i64]] [.int .i64 (0), .int .i64 (0), .slice none 0 0, .int .i64 (0), .bool false, .slice none 0 0, .slice none 0 0])), [4, 1000000001], (some 4), none⟩,
   o1 5 (.lit [.b] [.bool false])])
 (.seq (.rg [o1 9 (.copy 1),
   o3 10 162 [.t 9],
   ⟨false, [], [], .det 2 (.copy 10), [8, 10], (some 8), none⟩,
   ⟨false, [], [], .det 2 (.ext 8 0 2), [11, 8], (some 11), none⟩,
   o1 12 (.ext 8 2 1),
   ⟨false, [], [], .det 2 (.a (.c [.i .i64, .sl [.i .i64, .i .i64, .i .i64, .b]] [.int .i64 (0), .slice none 0 0])), [6, 1000000001], (some 6), none⟩,
   o4 2 [6, 11] (.store 6 [] 0 .nil (.t 11)),
   o1 7 (.copy 12)])
 (.seq (.seq (.join [⟨19, [.b], false⟩] 1040384 none (.rg [o1 13 (.copy 7),
   o1 14 (.data .not [.t 13]),
   o1 15 (.copy 14),
   o2 16 (.copy 0) 2 false,
   ⟨false, [], [], .call 1 163 [.t 16, .c [.i .i64] [.int .i64 (1)], .c [.i .i64] [.int .i64 (3)]] .no, [17], (some 17), some (2, false)⟩,
   o2 18 (.data .not [.t 17]) 2 false,
   ⟨false, [], [], .pick 15 (.c (.bool true)) (.t 18), [19], (some 19), none⟩]))
 (.cond (.t 19)
  (.seq (.rg [o1 20 (.build [.i .i64, .i .i64, .sl [.i .i64, .i .i64, .i .i64, .b], .i .i64, .b, .sl [.i .i64, .i .i64], .sl [.i .i64]] []),
    o4 2 [4, 20] (.store 4 [] 0 .nil (.t 20)),
    o1 5 (.lit [.b] [.bool false])])
  .ret)
  .skip))
 (.seq (.rg [o1 21 (.copy 0),
   o1 22 (.load 6 [] 0 .nil 2 true),
   ⟨false, [22], [], .det 2 (.build [.i .i64, .i .i64, .sl [.i .i64, .i .i64, .i .i64, .b], .i .i64, .b, .sl [.i .i64, .i .i64], .sl [.i .i64]] [(0, .t 21), (1, .t 22)]), [23, 22, 22, 6], (some 23), none⟩,
   o4 2 [4, 23] (.store 4 [] 0 .nil (.t 23)),
   o1 5 (.lit [.b] [.bool true])])
 .ret))))
def s_sShardNew : Sig := ⟨[.rd false [.d], .rd false [.d]], (.tup [(true, 7), (false, 1)] [.d, .d, .sl (.own none) [.d, .d, .d, .d], .d, .d, .sl (.own none) [.d, .d], .sl (.own none) [.d], .d])⟩
noncomputable def E_sShardNew : TEnv := envOf [(162, p_sWebNew), (163, p_sl01In)]
noncomputable def f_sShardNew (n : Nat) : Int × Int → Option ((Int × Int × List (Int × Int × Int × Bool) × Int × Bool × List (Int × Int) × List (Int) × Bool) × Unit) := runFn n E_sShardNew c_sShardNew [[.i .i64], [.i .i64]] [.i .i64, .i .i64, .sl [.i .i64, .i .i64, .i .i64, .b], .i .i64, .b, .sl [.i .i64, .i .i64], .sl [.i .i64], .b] [] [4, 5] .no
noncomputable def g_sShardNew := f_sShardNew BIG
noncomputable def p_sShardNew : TSp := ⟨s_sShardNew, [[.i .i64], [.i .i64]], [.i .i64, .i .i64, .sl [.i .i64, .i .i64, .i .i64, .b], .i .i64, .b, .sl [.i .i64, .i .i64], .sl [.i .i64], .b], [], Ou.j .no, g_sShardNew⟩
theorem k_sShardNew : chkW PG E_sShardNew 30 s_sShardNew (c_sShardNew.ht 24) .no = some (c_sShardNew.wc E_sShardNew, [4, 5]) := by kernel_rfl
theorem ok_sShardNew : p_sShardNew.Ok PG 30 := mkOk (env_cons ok_sWebNew (env_cons ok_sl01In (env_nil PG))) k_sShardNew (by kernel_rfl)
theorem e_sShardNew (n : Nat) (a0 : Int) (a1 : Int) : f_sShardNew n (a0, a1) =
  Option.bind (g_sWebNew a1) fun r0 =>
  Option.bind (bif !r0.1.2.2 then
    some true
   else Option.bind (g_sl01In (a0, (1 : Int), (3 : Int))) fun r1 =>
   some !r1.1 : Option (Bool)) fun x2 =>
  bif x2 then
   some (((0 : Int), (0 : Int), [], (0 : Int), false, [], [], false), ())
  else some ((a0, r0.1.1, r0.1.2.1, (0 : Int), false, [], [], true), ()) := by kernel_rfl
/- impl.in -/
def c_iin : TC :=
 (.seq (.rg [o1 6 (.lit [.b] [.bool false])])
 (.seq (.join [⟨6, [.b], false⟩] 32704 none (.rg [o1 7 (.copy 0),
   o1 8 (.copy 1),
   o1 9 (.data (.bin .geq) [.t 7, .t 8]),
   o1 10 (.copy 9),
   o2 11 (.copy 0) 3 true,
   o2 12 (.copy 2) 3 true,
   o2 13 (.data (.bin .leq) [.t 11, .t 12]) 3 true,
   ⟨false, [], [], .pick 10 (.t 13) (.c (.bool false)), [14], (some 14), none⟩,
   o1 6 (.copy 14)]))
 .ret))
def s_iin : Sig := ⟨[.rd false [.d], .rd false [.d], .rd false [.d]], (.one false [.d])⟩
noncomputable def E_iin : TEnv := envOf []
noncomputable def f_iin (n : Nat) : Int × Int × Int → Option ((Bool) × Unit) := runFn n E_iin c_iin [[.i .i64], [.i .i64], [.i .i64]] [.b] [] [6] .no
noncomputable def g_iin := f_iin BIG
noncomputable def p_iin : TSp := ⟨s_iin, [[.i .i64], [.i .i64], [.i .i64]], [.b], [], Ou.j .no, g_iin⟩
theorem k_iin : chkW PG E_iin 161 s_iin (c_iin.ht 15) .no = some (c_iin.wc E_iin, [6]) := by kernel_rfl
theorem ok_iin : p_iin.Ok PG 161 := mkOk (env_nil PG) k_iin (by kernel_rfl)
theorem e_iin (n : Nat) (a0 : Int) (a1 : Int) (a2 : Int) : f_iin n (a0, a1, a2) =
  Option.bind (bif decide (a1 ≤ a0) then
    some (decide (a0 ≤ a2))
   else some false : Option (Bool)) fun x0 =>
  some (x0, ()) := by kernel_rfl
/- impl.WebNew -/
def c_iWebNew : TC :=
 (.seq (.rg [⟨false, [], [], .det 2 (.a (.c [.i .i64, .sl [.i .i64, .i .i64, .i .i64, .b]] [.int .i64 (0), .slice none 0 0])), [2, 1000000001], (some 2), none⟩,
   o1 3 (.lit [.b] [.bool false])])
 (.seq (.seq (.rg [o1 4 (.copy 0),
   o3 5 161 [.t 4, .c [.i .i64] [.int .i64 (1)], .c [.i .i64] [.int .i64 (12)]],
   o1 6 (.data .not [.t 5])])
 (.cond (.t 6)
  (.seq (.rg [o1 7 (.build [.i .i64, .sl [.i .i64, .i .i64, .i .i64, .b]] []),
    o4 2 [2, 7] (.store 2 [] 0 .nil (.t 7)),
    o1 3 (.lit [.b] [.bool false])])
  .ret)
  .skip))
 (.seq (.rg [o1 8 (.copy 0),
   o1 9 (.build [.i .i64, .sl [.i .i64, .i .i64, .i .i64, .b]] [(0, .t 8)]),
   o4 2 [2, 9] (.store 2 [] 0 .nil (.t 9)),
   o1 3 (.lit [.b] [.bool true])])
 .ret)))
def s_iWebNew : Sig := ⟨[.rd false [.d]], (.tup [(true, 2), (false, 1)] [.d, .sl (.own none) [.d, .d, .d, .d], .d])⟩
noncomputable def E_iWebNew : TEnv := envOf [(161, p_iin)]
noncomputable def f_iWebNew (n : Nat) : Int → Option ((Int × List (Int × Int × Int × Bool) × Bool) × Unit) := runFn n E_iWebNew c_iWebNew [[.i .i64]] [.i .i64, .sl [.i .i64, .i .i64, .i .i64, .b], .b] [] [2, 3] .no
noncomputable def g_iWebNew := f_iWebNew BIG
noncomputable def p_iWebNew : TSp := ⟨s_iWebNew, [[.i .i64]], [.i .i64, .sl [.i .i64, .i .i64, .i .i64, .b], .b], [], Ou.j .no, g_iWebNew⟩
theorem k_iWebNew : chkW PG E_iWebNew 160 s_iWebNew (c_iWebNew.ht 10) .no = some (c_iWebNew.wc E_iWebNew, [2, 3]) := by kernel_rfl
theorem ok_iWebNew : p_iWebNew.Ok PG 160 := mkOk (env_cons ok_iin (env_nil PG)) k_iWebNew (by kernel_rfl)
theorem e_iWebNew (n : Nat) (a0 : Int) : f_iWebNew n a0 =
  Option.bind (g_iin (a0, (1 : Int), (12 : Int))) fun r0 =>
  bif !r0.1 then
   some (((0 : Int), [], false), ())
  else some ((a0, [], true), ()) := by kernel_rfl
/- impl.ShardNew -/
def c_iShardNew : TC :=
 (.seq (.rg [⟨false, [], [], .det 2 (.a (.c [.i .i64, .i .i64, .sl [.i .i64, .i .i64, .i .i64, .b], .i .i64, .b, .sl [.i .i64, .i .i64], .sl [.i .i64]] [.int .i64 (0), .int .i64 (0), .slice none 0 0, .int .i64 (0), .bool false, .slice none 0 0, .slice none 0 0])), [4, 1000000001], (some 4), none⟩,
   o1 5 (.lit [.b] [.bool false])])
 (.seq (.rg [o1 9 (.copy 1),
   o3 10 160 [.t 9],
   ⟨false, [], [], .det 2 (.copy 10), [8, 10], (some 8), none⟩,
   ⟨false, [], [], .det 2 (.ext 8 0 2), [11, 8], (some 11), none⟩,
   o1 12 (.ext 8 2 1),
   ⟨false, [], [], .det 2 (.a (.c [.i .i64, .sl [.i .i64, .i .i64, .i .i64, .b]] [.int .i64 (0), .slice none 0 0])), [6, 1000000001], (some 6), none⟩,
   o4 2 [6, 11] (.store 6 [] 0 .nil (.t 11)),
   o1 7 (.copy 12)])
 (.seq (.seq (.join [⟨19, [.b], false⟩] 1040384 none (.rg [o1 13 (.copy 0),
   o3 14 161 [.t 13, .c [.i .i64] [.int .i64 (1)], .c [.i .i64] [.int .i64 (3)]],
   o1 15 (.data .not [.t 14]),
   o1 16 (.copy 15),
   o2 17 (.copy 7) 3 false,
   o2 18 (.data .not [.t 17]) 3 false,
   ⟨false, [], [], .pick 16 (.c (.bool true)) (.t 18), [19], (some 19), none⟩]))
 (.cond (.t 19)
  (.seq (.rg [o1 20 (.build [.i .i64, .i .i64, .sl [.i .i64, .i .i64, .i .i64, .b], .i .i64, .b, .sl [.i .i64, .i .i64], .sl [.i .i64]] []),
    o4 2 [4, 20] (.store 4 [] 0 .nil (.t 20)),
    o1 5 (.lit [.b] [.bool false])])
  .ret)
  .skip))
 (.seq (.rg [o1 21 (.copy 0),
   o1 22 (.load 6 [] 0 .nil 2 true),
   ⟨false, [22], [], .det 2 (.build [.i .i64, .i .i64, .sl [.i .i64, .i .i64, .i .i64, .b], .i .i64, .b, .sl [.i .i64, .i .i64], .sl [.i .i64]] [(0, .t 21), (1, .t 22)]), [23, 22, 22, 6], (some 23), none⟩,
   o4 2 [4, 23] (.store 4 [] 0 .nil (.t 23)),
   o1 5 (.lit [.b] [.bool true])])
 .ret))))
def s_iShardNew : Sig := ⟨[.rd false [.d], .rd false [.d]], (.tup [(true, 7), (false, 1)] [.d, .d, .sl (.own none) [.d, .d, .d, .d], .d, .d, .sl (.own none) [.d, .d], .sl (.own none) [.d], .d])⟩
noncomputable def E_iShardNew : TEnv := envOf [(160, p_iWebNew), (161, p_iin)]
noncomputable def f_iShardNew (n : Nat) : Int × Int → Option ((Int × Int × List (Int × Int × Int × Bool) × Int × Bool × List (Int × Int) × List (Int) × Bool) × Unit) := runFn n E_iShardNew c_iShardNew [[.i .i64], [.i .i64]] [.i .i64, .i .i64, .sl [.i .i64, .i .i64, .i .i64, .b], .i .i64, .b, .sl [.i .i64, .i .i64], .sl [.i .i64], .b] [] [4, 5] .no
noncomputable def g_iShardNew := f_iShardNew BIG
noncomputable def p_iShardNew : TSp := ⟨s_iShardNew, [[.i .i64], [.i .i64]], [.i .i64, .i .i64, .sl [.i .i64, .i .i64, .i .i64, .b], .i .i64, .b, .sl [.i .i64, .i .i64], .sl [.i .i64], .b], [], Ou.j .no, g_iShardNew⟩
theorem k_iShardNew : chkW PG E_iShardNew 29 s_iShardNew (c_iShardNew.ht 24) .no = some (c_iShardNew.wc E_iShardNew, [4, 5]) := by kernel_rfl
theorem ok_iShardNew : p_iShardNew.Ok PG 29 := mkOk (env_cons ok_iWebNew (env_cons ok_iin (env_nil PG))) k_iShardNew (by kernel_rfl)
theorem e_iShardNew (n : Nat) (a0 : Int) (a1 : Int) : f_iShardNew n (a0, a1) =
  Option.bind (g_iWebNew a1) fun r0 =>
  Option.bind (Option.bind (g_iin (a0, (1 : Int), (3 : Int))) fun r1 =>
   bif !r1.1 then
    some true
   else some !r0.1.2.2 : Option (Bool)) fun x2 =>
  bif x2 then
   some (((0 : Int), (0 : Int), [], (0 : Int), false, [], [], false), ())
  else some ((a0, r0.1.1, r0.1.2.1, (0 : Int), false, [], [], true), ()) := by kernel_rfl
/- laws.eqLedge -/
def c_leqLedge : TC :=
 (.seq (.rg [o1 2 (.a (.t 0)),
   o1 3 (.a (.t 1)),
   o1 4 (.lit [.b] [.bool false])])
 (.seq (.seq (.rg [o1 5 (.idx .nil),
   o1 6 (.load 2 [] 0 (.t 5) 1 false),
   o1 7 (.idx .nil),
   o1 8 (.load 3 [] 0 (.t 7) 1 false),
   o1 9 (.data (.bin .neq) [.t 6, .t 8])])
 (.cond (.t 9)
  (.seq (.rg [o1 4 (.lit [.b] [.bool false])])
  .ret)
  .skip))
 (.seq (.seq (.rg [o1 10 (.idx .nil),
   o1 11 (.load 2 [] 1 (.t 10) 1 false),
   o1 12 (.idx .nil),
   o1 13 (.load 3 [] 1 (.t 12) 1 false),
   o1 14 (.data (.bin .neq) [.t 11, .t 13])])
 (.cond (.t 14)
  (.seq (.rg [o1 4 (.lit [.b] [.bool false])])
  .ret)
  .skip))
 (.seq (.seq (.rg [o1 15 (.idx .nil),
   o1 16 (.load 2 [] 2 (.t 15) 1 false),
   o1 17 (.idx .nil),
   o1 18 (.load 3 [] 2 (.t 17) 1 false),
   o1 19 (.data (.bin .neq) [.t 16, .t 18])])
 (.cond (.t 19)
  (.seq (.rg [o1 4 (.lit [.b] [.bool false])])
  .ret)
  .skip))
 (.seq (.seq (.rg [o1 20 (.idx .nil),
   o1 21 (.load 2 [] 3 (.t 20) 1 false),
   o1 22 (.idx .nil),
   o1 23 (.load 3 [] 3 (.t 22) 1 false),
   o1 24 (.data (.beq true) [.t 21, .t 23])])
 (.cond (.t 24)
  (.seq (.rg [o1 4 (.lit [.b] [.bool false])])
  .ret)
  .skip))
 (.seq (.rg [o1 4 (.lit [.b] [.bool true])])
 .ret))))))
def s_leqLedge : Sig := ⟨[.rd true [.d, .d, .d, .d], .rd true [.d, .d, .d, .d]], (.one false [.d])⟩
noncomputable def E_leqLedge : TEnv := envOf []
noncomputable def f_leqLedge (n : Nat) : (Int × Int × Int × Bool) × (Int × Int × Int × Bool) → Option ((Bool) × Unit) := runFn n E_leqLedge c_leqLedge [[.i .i64, .i .i64, .i .i64, .b], [.i .i64, .i .i64, .i .i64, .b]] [.b] [] [4] .no
noncomputable def g_leqLedge := f_leqLedge BIG
noncomputable def p_leqLedge : TSp := ⟨s_leqLedge, [[.i .i64, .i .i64, .i .i64, .b], [.i .i64, .i .i64, .i .i64, .b]], [.b], [], Ou.j .no, g_leqLedge⟩
theorem k_leqLedge : chkW PG E_leqLedge 347 s_leqLedge (c_leqLedge.ht 25) .no = some (c_leqLedge.wc E_leqLedge, [4]) := by kernel_rfl
theorem ok_leqLedge : p_leqLedge.Ok PG 347 := mkOk (env_nil PG) k_leqLedge (by kernel_rfl)
theorem e_leqLedge (n : Nat) (a0 : Int × Int × Int × Bool) (a1 : Int × Int × Int × Bool) : f_leqLedge n (a0, a1) =
  bif !decide (a0.1 = a1.1) then
   some (false, ())
  else bif !decide (a0.2.1 = a1.2.1) then
   some (false, ())
  else bif !decide (a0.2.2.1 = a1.2.2.1) then
   some (false, ())
  else bif !(a0.2.2.2 == a1.2.2.2) then
   some (false, ())
  else some (true, ()) := by kernel_rfl
/- laws.eqLedgeS -/
def c_leqLedgeS : TC :=
 (.seq (.rg [o1 4 (.lit [.b] [.bool false])])
 (.seq (.seq (.rg [o1 6 (.copy 0),
   o1 7 (.len 6),
   o1 8 (.copy 1),
   o1 9 (.len 8),
   o1 10 (.data (.bin .neq) [.t 7, .t 9])])
 (.cond (.t 10)
  (.seq (.rg [o1 4 (.lit [.b] [.bool false])])
  .ret)
  .skip))
 (.seq (.join [] 134215728 (some [⟨4, [.b], false⟩]) (.seq (.rg [o1 5 (.lit [.i .i64] [.int .i64 (0)])])
 (.block 0 (.loop [⟨5, [.i .i64], false⟩] 134215728
  (.seq (.seq (.rg [o1 11 (.copy 5),
    o1 12 (.copy 0),
    o1 13 (.len 12),
    o1 14 (.data (.bin .lss) [.t 11, .t 13])])
  (.cond (.t 14)
   .skip
   (.exit 0)))
  (.seq (.block 1 (.seq (.rg [o1 17 (.copy 0),
    o1 18 (.copy 5),
    o1 19 (.index 17 (.t 18)),
    o1 20 (.load 17 [(0, 4)] 0 (.t 19) 4 false),
    o1 21 (.copy 1),
    o1 22 (.copy 5),
    o1 23 (.index 21 (.t 22)),
    o1 24 (.load 21 [(0, 4)] 0 (.t 23) 4 false),
    o3 25 347 [.t 20, .t 24],
    o1 26 (.data .not [.t 25])])
  (.cond (.t 26)
   (.seq (.rg [o1 4 (.lit [.b] [.bool false])])
   .ret)
   .skip)))
  (.rg [o1 15 (.copy 5),
    o1 16 (.data (.bin .add) [.t 15, .c (.int .i64 (1))]),
    o1 5 (.copy 16)])))))))
 (.seq (.rg [o1 4 (.lit [.b] [.bool true])])
 .ret))))
def s_leqLedgeS : Sig := ⟨[.rd false [.sl (.own none) [.d, .d, .d, .d]], .rd false [.sl (.own none) [.d, .d, .d, .d]]], (.one false [.d])⟩
noncomputable def E_leqLedgeS : TEnv := envOf [(347, p_leqLedge)]
noncomputable def f_leqLedgeS (n : Nat) : (List (Int × Int × Int × Bool)) × (List (Int × Int × Int × Bool)) → Option ((Bool) × Unit) := runFn n E_leqLedgeS c_leqLedgeS [[.sl [.i .i64, .i .i64, .i .i64, .b]], [.sl [.i .i64, .i .i64, .i .i64, .b]]] [.b] [] [4] .no
noncomputable def g_leqLedgeS := f_leqLedgeS BIG
noncomputable def p_leqLedgeS : TSp := ⟨s_leqLedgeS, [[.sl [.i .i64, .i .i64, .i .i64, .b]], [.sl [.i .i64, .i .i64, .i .i64, .b]]], [.b], [], Ou.j .no, g_leqLedgeS⟩
theorem k_leqLedgeS : chkW PG E_leqLedgeS 297 s_leqLedgeS (c_leqLedgeS.ht 27) .no = some (c_leqLedgeS.wc E_leqLedgeS, [4]) := by kernel_rfl
theorem ok_leqLedgeS : p_leqLedgeS.Ok PG 297 := mkOk (env_cons ok_leqLedge (env_nil PG)) k_leqLedgeS (by kernel_rfl)
theorem e_leqLedgeS (n : Nat) (a0 : List (Int × Int × Int × Bool)) (a1 : List (Int × Int × Int × Bool)) : f_leqLedgeS n (a0, a1) =
  bif !decide ((a0.length : Int) = (a1.length : Int)) then
   some (false, ())
  else Option.bind (loopT n (X := Int) (B := (Unit) ⊕ (Bool)) (fun self1 x0 =>
    bif decide (x0 < (a0.length : Int)) then
     bnd a0.length x0 fun n2 =>
     Option.bind a0[n2]? fun y3 =>
     bnd a1.length x0 fun n4 =>
     Option.bind a1[n4]? fun y5 =>
     Option.bind (g_leqLedge (y3, y5)) fun r6 =>
     bif !r6.1 then
      some (Sum.inr false)
     else self1 (IntKind.wrap .i64 (x0 + (1 : Int)))
    else some (Sum.inl ())) (0 : Int) : Option ((Unit) ⊕ (Bool))) fun y => match y with
  | .inl x7 =>
   some (true, ())
  | .inr x7 =>
   some (x7, ()) := by kernel_rfl
/- laws.eqWeb -/
def c_leqWeb : TC :=
 (.seq (.rg [o1 2 (.a (.t 0)),
   o1 3 (.a (.t 1)),
   o1 4 (.lit [.b] [.bool false])])
 (.seq (.seq (.rg [o1 5 (.idx .nil),
   o1 6 (.load 2 [] 0 (.t 5) 1 false),
   o1 7 (.idx .nil),
   o1 8 (.load 3 [] 0 (.t 7) 1 false),
   o1 9 (.data (.bin .neq) [.t 6, .t 8])])
 (.cond (.t 9)
  (.seq (.rg [o1 4 (.lit [.b] [.bool false])])
  .ret)
  .skip))
 (.seq (.seq (.rg [o1 10 (.idx .nil),
   o1 11 (.load 2 [] 1 (.t 10) 1 false),
   o1 12 (.idx .nil),
   o1 13 (.load 3 [] 1 (.t 12) 1 false),
   o3 14 297 [.t 11, .t 13],
   o1 15 (.data .not [.t 14])])
 (.cond (.t 15)
  (.seq (.rg [o1 4 (.lit [.b] [.bool false])])
  .ret)
  .skip))
 (.seq (.rg [o1 4 (.lit [.b] [.bool true])])
 .ret))))
def s_leqWeb : Sig := ⟨[.rd true [.d, .sl (.own none) [.d, .d, .d, .d]], .rd true [.d, .sl (.own none) [.d, .d, .d, .d]]], (.one false [.d])⟩
noncomputable def E_leqWeb : TEnv := envOf [(297, p_leqLedgeS)]
noncomputable def f_leqWeb (n : Nat) : (Int × List (Int × Int × Int × Bool)) × (Int × List (Int × Int × Int × Bool)) → Option ((Bool) × Unit) := runFn n E_leqWeb c_leqWeb [[.i .i64, .sl [.i .i64, .i .i64, .i .i64, .b]], [.i .i64, .sl [.i .i64, .i .i64, .i .i64, .b]]] [.b] [] [4] .no
noncomputable def g_leqWeb := f_leqWeb BIG
noncomputable def p_leqWeb : TSp := ⟨s_leqWeb, [[.i .i64, .sl [.i .i64, .i .i64, .i .i64, .b]], [.i .i64, .sl [.i .i64, .i .i64, .i .i64, .b]]], [.b], [], Ou.j .no, g_leqWeb⟩
theorem k_leqWeb : chkW PG E_leqWeb 181 s_leqWeb (c_leqWeb.ht 16) .no = some (c_leqWeb.wc E_leqWeb, [4]) := by kernel_rfl
theorem ok_leqWeb : p_leqWeb.Ok PG 181 := mkOk (env_cons ok_leqLedgeS (env_nil PG)) k_leqWeb (by kernel_rfl)
theorem e_leqWeb (n : Nat) (a0 : Int × List (Int × Int × Int × Bool)) (a1 : Int × List (Int × Int × Int × Bool)) : f_leqWeb n (a0, a1) =
  bif !decide (a0.1 = a1.1) then
   some (false, ())
  else Option.bind (g_leqLedgeS (a0.2, a1.2)) fun r0 =>
  bif !r0.1 then
   some (false, ())
  else some (true, ()) := by kernel_rfl
/- laws.eqEdge -/
def c_leqEdge : TC :=
 (.seq (.rg [o1 2 (.a (.t 0)),
   o1 3 (.a (.t 1)),
   o1 4 (.lit [.b] [.bool false])])
 (.seq (.seq (.rg [o1 5 (.idx .nil),
   o1 6 (.load 2 [] 0 (.t 5) 1 false),
   o1 7 (.idx .nil),
   o1 8 (.load 3 [] 0 (.t 7) 1 false),
   o1 9 (.data (.bin .neq) [.t 6, .t 8])])
 (.cond (.t 9)
  (.seq (.rg [o1 4 (.lit [.b] [.bool false])])
  .ret)
  .skip))
 (.seq (.seq (.rg [o1 10 (.idx .nil),
   o1 11 (.load 2 [] 1 (.t 10) 1 false),
   o1 12 (.idx .nil),
   o1 13 (.load 3 [] 1 (.t 12) 1 false),
   o1 14 (.data (.bin .neq) [.t 11, .t 13])])
 (.cond (.t 14)
  (.seq (.rg [o1 4 (.lit [.b] [.bool false])])
  .ret)
  .skip))
 (.seq (.rg [o1 4 (.lit [.b] [.bool true])])
 .ret))))
def s_leqEdge : Sig := ⟨[.rd true [.d, .d], .rd true [.d, .d]], (.one false [.d])⟩
noncomputable def E_leqEdge : TEnv := envOf []
noncomputable def f_leqEdge (n : Nat) : (Int × Int) × (Int × Int) → Option ((Bool) × Unit) := runFn n E_leqEdge c_leqEdge [[.i .i64, .i .i64], [.i .i64, .i .i64]] [.b] [] [4] .no
noncomputable def g_leqEdge := f_leqEdge BIG
noncomputable def p_leqEdge : TSp := ⟨s_leqEdge, [[.i .i64, .i .i64], [.i .i64, .i .i64]], [.b], [], Ou.j .no, g_leqEdge⟩
theorem k_leqEdge : chkW PG E_leqEdge 174 s_leqEdge (c_leqEdge.ht 15) .no = some (c_leqEdge.wc E_leqEdge, [4]) := by kernel_rfl
theorem ok_leqEdge : p_leqEdge.Ok PG 174 := mkOk (env_nil PG) k_leqEdge (by kernel_rfl)
theorem e_leqEdge (n : Nat) (a0 : Int × Int) (a1 : Int × Int) : f_leqEdge n (a0, a1) =
  bif !decide (a0.1 = a1.1) then
   some (false, ())
  else bif !decide (a0.2 = a1.2) then
   some (false, ())
  else some (true, ()) := by kernel_rfl
/- laws.eqEdgeS -/
def c_leqEdgeS : TC :=
 (.seq (.rg [o1 4 (.lit [.b] [.bool false])])
 (.seq (.seq (.rg [o1 6 (.copy 0),
   o1 7 (.len 6),
   o1 8 (.copy 1),
   o1 9 (.len 8),
   o1 10 (.data (.bin .neq) [.t 7, .t 9])])
 (.cond (.t 10)
  (.seq (.rg [o1 4 (.lit [.b] [.bool false])])
  .ret)
  .skip))
 (.seq (.join [] 134215728 (some [⟨4, [.b], false⟩]) (.seq (.rg [o1 5 (.lit [.i .i64] [.int .i64 (0)])])
 (.block 0 (.loop [⟨5, [.i .i64], false⟩] 134215728
  (.seq (.seq (.rg [o1 11 (.copy 5),
    o1 12 (.copy 0),
    o1 13 (.len 12),
    o1 14 (.data (.bin .lss) [.t 11, .t 13])])
  (.cond (.t 14)
   .skip
   (.exit 0)))
  (.seq (.block 1 (.seq (.rg [o1 17 (.copy 0),
    o1 18 (.copy 5),
    o1 19 (.index 17 (.t 18)),
    o1 20 (.load 17 [(0, 2)] 0 (.t 19) 2 false),
    o1 21 (.copy 1),
    o1 22 (.copy 5),
    o1 23 (.index 21 (.t 22)),
    o1 24 (.load 21 [(0, 2)] 0 (.t 23) 2 false),
    o3 25 174 [.t 20, .t 24],
    o1 26 (.data .not [.t 25])])
  (.cond (.t 26)
   (.seq (.rg [o1 4 (.lit [.b] [.bool false])])
   .ret)
   .skip)))
  (.rg [o1 15 (.copy 5),
    o1 16 (.data (.bin .add) [.t 15, .c (.int .i64 (1))]),
    o1 5 (.copy 16)])))))))
 (.seq (.rg [o1 4 (.lit [.b] [.bool true])])
 .ret))))
def s_leqEdgeS : Sig := ⟨[.rd false [.sl (.own none) [.d, .d]], .rd false [.sl (.own none) [.d, .d]]], (.one false [.d])⟩
noncomputable def E_leqEdgeS : TEnv := envOf [(174, p_leqEdge)]
noncomputable def f_leqEdgeS (n : Nat) : (List (Int × Int)) × (List (Int × Int)) → Option ((Bool) × Unit) := runFn n E_leqEdgeS c_leqEdgeS [[.sl [.i .i64, .i .i64]], [.sl [.i .i64, .i .i64]]] [.b] [] [4] .no
noncomputable def g_leqEdgeS := f_leqEdgeS BIG
noncomputable def p_leqEdgeS : TSp := ⟨s_leqEdgeS, [[.sl [.i .i64, .i .i64]], [.sl [.i .i64, .i .i64]]], [.b], [], Ou.j .no, g_leqEdgeS⟩
theorem k_leqEdgeS : chkW PG E_leqEdgeS 41 s_leqEdgeS (c_leqEdgeS.ht 27) .no = some (c_leqEdgeS.wc E_leqEdgeS, [4]) := by kernel_rfl
theorem ok_leqEdgeS : p_leqEdgeS.Ok PG 41 := mkOk (env_cons ok_leqEdge (env_nil PG)) k_leqEdgeS (by kernel_rfl)
theorem e_leqEdgeS (n : Nat) (a0 : List (Int × Int)) (a1 : List (Int × Int)) : f_leqEdgeS n (a0, a1) =
  bif !decide ((a0.length : Int) = (a1.length : Int)) then
   some (false, ())
  else Option.bind (loopT n (X := Int) (B := (Unit) ⊕ (Bool)) (fun self1 x0 =>
    bif decide (x0 < (a0.length : Int)) then
     bnd a0.length x0 fun n2 =>
     Option.bind a0[n2]? fun y3 =>
     bnd a1.length x0 fun n4 =>
     Option.bind a1[n4]? fun y5 =>
     Option.bind (g_leqEdge (y3, y5)) fun r6 =>
     bif !r6.1 then
      some (Sum.inr false)
     else self1 (IntKind.wrap .i64 (x0 + (1 : Int)))
    else some (Sum.inl ())) (0 : Int) : Option ((Unit) ⊕ (Bool))) fun y => match y with
  | .inl x7 =>
   some (true, ())
  | .inr x7 =>
   some (x7, ()) := by kernel_rfl
/- laws.eqIntS -/
def c_leqIntS : TC :=
 (.seq (.rg [o1 4 (.lit [.b] [.bool false])])
 (.seq (.seq (.rg [o1 6 (.copy 0),
   o1 7 (.len 6),
   o1 8 (.copy 1),
   o1 9 (.len 8),
   o1 10 (.data (.bin .neq) [.t 7, .t 9])])
 (.cond (.t 10)
  (.seq (.rg [o1 4 (.lit [.b] [.bool false])])
  .ret)
  .skip))
 (.seq (.join [] 67106864 (some [⟨4, [.b], false⟩]) (.seq (.rg [o1 5 (.lit [.i .i64] [.int .i64 (0)])])
 (.block 0 (.loop [⟨5, [.i .i64], false⟩] 67106864
  (.seq (.seq (.rg [o1 11 (.copy 5),
    o1 12 (.copy 0),
    o1 13 (.len 12),
    o1 14 (.data (.bin .lss) [.t 11, .t 13])])
  (.cond (.t 14)
   .skip
   (.exit 0)))
  (.seq (.block 1 (.seq (.rg [o1 17 (.copy 0),
    o1 18 (.copy 5),
    o1 19 (.index 17 (.t 18)),
    o1 20 (.load 17 [(0, 1)] 0 (.t 19) 1 false),
    o1 21 (.copy 1),
    o1 22 (.copy 5),
    o1 23 (.index 21 (.t 22)),
    o1 24 (.load 21 [(0, 1)] 0 (.t 23) 1 false),
    o1 25 (.data (.bin .neq) [.t 20, .t 24])])
  (.cond (.t 25)
   (.seq (.rg [o1 4 (.lit [.b] [.bool false])])
   .ret)
   .skip)))
  (.rg [o1 15 (.copy 5),
    o1 16 (.data (.bin .add) [.t 15, .c (.int .i64 (1))]),
    o1 5 (.copy 16)])))))))
 (.seq (.rg [o1 4 (.lit [.b] [.bool true])])
 .ret))))
def s_leqIntS : Sig := ⟨[.rd false [.sl (.own none) [.d]], .rd false [.sl (.own none) [.d]]], (.one false [.d])⟩
noncomputable def E_leqIntS : TEnv := envOf []
noncomputable def f_leqIntS (n : Nat) : List (Int) × List (Int) → Option ((Bool) × Unit) := runFn n E_leqIntS c_leqIntS [[.sl [.i .i64]], [.sl [.i .i64]]] [.b] [] [4] .no
noncomputable def g_leqIntS := f_leqIntS BIG
noncomputable def p_leqIntS : TSp := ⟨s_leqIntS, [[.sl [.i .i64]], [.sl [.i .i64]]], [.b], [], Ou.j .no, g_leqIntS⟩
theorem k_leqIntS : chkW PG E_leqIntS 39 s_leqIntS (c_leqIntS.ht 26) .no = some (c_leqIntS.wc E_leqIntS, [4]) := by kernel_rfl
theorem ok_leqIntS : p_leqIntS.Ok PG 39 := mkOk (env_nil PG) k_leqIntS (by kernel_rfl)
theorem e_leqIntS (n : Nat) (a0 : List (Int)) (a1 : List (Int)) : f_leqIntS n (a0, a1) =
  bif !decide ((a0.length : Int) = (a1.length : Int)) then
   some (false, ())
  else Option.bind (loopT n (X := Int) (B := (Unit) ⊕ (Bool)) (fun self1 x0 =>
    bif decide (x0 < (a0.length : Int)) then
     bnd a0.length x0 fun n2 =>
     Option.bind a0[n2]? fun y3 =>
     bnd a1.length x0 fun n4 =>
     Option.bind a1[n4]? fun y5 =>
     bif !decide (y3 = y5) then
      some (Sum.inr false)
     else self1 (IntKind.wrap .i64 (x0 + (1 : Int)))
    else some (Sum.inl ())) (0 : Int) : Option ((Unit) ⊕ (Bool))) fun y => match y with
  | .inl x6 =>
   some (true, ())
  | .inr x6 =>
   some (x6, ()) := by kernel_rfl
/- laws.eqAnswer -/
def c_leqAnswer : TC :=
 (.seq (.rg [o1 2 (.a (.t 0)),
   o1 3 (.a (.t 1)),
   o1 4 (.lit [.b] [.bool false])])
 (.seq (.seq (.rg [o1 5 (.idx .nil),
   o1 6 (.load 2 [] 0 (.t 5) 1 false),
   o1 7 (.idx .nil),
   o1 8 (.load 3 [] 0 (.t 7) 1 false),
   o1 9 (.data (.bin .neq) [.t 6, .t 8])])
 (.cond (.t 9)
  (.seq (.rg [o1 4 (.lit [.b] [.bool false])])
  .ret)
  .skip))
 (.seq (.seq (.rg [o1 10 (.idx .nil),
   o1 11 (.load 2 [] 1 (.t 10) 1 false),
   o1 12 (.idx .nil),
   o1 13 (.load 3 [] 1 (.t 12) 1 false),
   o1 14 (.data (.beq true) [.t 11, .t 13])])
 (.cond (.t 14)
  (.seq (.rg [o1 4 (.lit [.b] [.bool false])])
  .ret)
  .skip))
 (.seq (.seq (.rg [o1 15 (.idx .nil),
   o1 16 (.load 2 [] 2 (.t 15) 1 false),
   o1 17 (.idx .nil),
   o1 18 (.load 3 [] 2 (.t 17) 1 false),
   o3 19 41 [.t 16, .t 18],
   o1 20 (.data .not [.t 19])])
 (.cond (.t 20)
  (.seq (.rg [o1 4 (.lit [.b] [.bool false])])
  .ret)
  .skip))
 (.seq (.seq (.rg [o1 21 (.idx .nil),
   o1 22 (.load 2 [] 3 (.t 21) 1 false),
   o1 23 (.idx .nil),
   o1 24 (.load 3 [] 3 (.t 23) 1 false),
   o3 25 39 [.t 22, .t 24],
   o1 26 (.data .not [.t 25])])
 (.cond (.t 26)
  (.seq (.rg [o1 4 (.lit [.b] [.bool false])])
  .ret)
  .skip))
 (.seq (.rg [o1 4 (.lit [.b] [.bool true])])
 .ret))))))
def s_leqAnswer : Sig := ⟨[.rd true [.d, .d, .sl (.own none) [.d, .d], .sl (.own none) [.d]], .rd true [.d, .d, .sl (.own none) [.d, .d], .sl (.own none) [.d]]], (.one false [.d])⟩
noncomputable def E_leqAnswer : TEnv := envOf [(41, p_leqEdgeS), (39, p_leqIntS)]
noncomputable def f_leqAnswer (n : Nat) : (Int × Bool × List (Int × Int) × List (Int)) × (Int × Bool × List (Int × Int) × List (Int)) → Option ((Bool) × Unit) := runFn n E_leqAnswer c_leqAnswer [[.i .i64, .b, .sl [.i .i64, .i .i64], .sl [.i .i64]], [.i .i64, .b, .sl [.i .i64, .i .i64], .sl [.i .i64]]] [.b] [] [4] .no
noncomputable def g_leqAnswer := f_leqAnswer BIG
noncomputable def p_leqAnswer : TSp := ⟨s_leqAnswer, [[.i .i64, .b, .sl [.i .i64, .i .i64], .sl [.i .i64]], [.i .i64, .b, .sl [.i .i64, .i .i64], .sl [.i .i64]]], [.b], [], Ou.j .no, g_leqAnswer⟩
theorem k_leqAnswer : chkW PG E_leqAnswer 73 s_leqAnswer (c_leqAnswer.ht 27) .no = some (c_leqAnswer.wc E_leqAnswer, [4]) := by kernel_rfl
theorem ok_leqAnswer : p_leqAnswer.Ok PG 73 := mkOk (env_cons ok_leqEdgeS (env_cons ok_leqIntS (env_nil PG))) k_leqAnswer (by kernel_rfl)
theorem e_leqAnswer (n : Nat) (a0 : Int × Bool × List (Int × Int) × List (Int)) (a1 : Int × Bool × List (Int × Int) × List (Int)) : f_leqAnswer n (a0, a1) =
  bif !decide (a0.1 = a1.1) then
   some (false, ())
  else bif !(a0.2.1 == a1.2.1) then
   some (false, ())
  else Option.bind (g_leqEdgeS (a0.2.2.1, a1.2.2.1)) fun r0 =>
  bif !r0.1 then
   some (false, ())
  else Option.bind (g_leqIntS (a0.2.2.2, a1.2.2.2)) fun r1 =>
  bif !r1.1 then
   some (false, ())
  else some (true, ()) := by kernel_rfl
/- laws.eqShard -/
def c_leqShard : TC :=
 (.seq (.rg [o1 2 (.a (.t 0)),
   o1 3 (.a (.t 1)),
   o1 4 (.lit [.b] [.bool false])])
 (.seq (.seq (.rg [o1 5 (.idx .nil),
   o1 6 (.load 2 [] 0 (.t 5) 1 false),
   o1 7 (.idx .nil),
   o1 8 (.load 3 [] 0 (.t 7) 1 false),
   o1 9 (.data (.bin .neq) [.t 6, .t 8])])
 (.cond (.t 9)
  (.seq (.rg [o1 4 (.lit [.b] [.bool false])])
  .ret)
  .skip))
 (.seq (.seq (.rg [o1 10 (.idx .nil),
   o1 11 (.load 2 [] 1 (.t 10) 2 false),
   o1 12 (.idx .nil),
   o1 13 (.load 3 [] 1 (.t 12) 2 false),
   o3 14 181 [.t 11, .t 13],
   o1 15 (.data .not [.t 14])])
 (.cond (.t 15)
  (.seq (.rg [o1 4 (.lit [.b] [.bool false])])
  .ret)
  .skip))
 (.seq (.seq (.rg [o1 16 (.idx .nil),
   o1 17 (.load 2 [] 3 (.t 16) 4 false),
   o1 18 (.idx .nil),
   o1 19 (.load 3 [] 3 (.t 18) 4 false),
   o3 20 73 [.t 17, .t 19],
   o1 21 (.data .not [.t 20])])
 (.cond (.t 21)
  (.seq (.rg [o1 4 (.lit [.b] [.bool false])])
  .ret)
  .skip))
 (.seq (.rg [o1 4 (.lit [.b] [.bool true])])
 .ret)))))
def s_leqShard : Sig := ⟨[.rd true [.d, .d, .sl (.own none) [.d, .d, .d, .d], .d, .d, .sl (.own none) [.d, .d], .sl (.own none) [.d]], .rd true [.d, .d, .sl (.own none) [.d, .d, .d, .d], .d, .d, .sl (.own none) [.d, .d], .sl (.own none) [.d]]], (.one false [.d])⟩
noncomputable def E_leqShard : TEnv := envOf [(181, p_leqWeb), (73, p_leqAnswer)]
noncomputable def f_leqShard (n : Nat) : (Int × Int × List (Int × Int × Int × Bool) × Int × Bool × List (Int × Int) × List (Int)) × (Int × Int × List (Int × Int × Int × Bool) × Int × Bool × List (Int × Int) × List (Int)) → Option ((Bool) × Unit) := runFn n E_leqShard c_leqShard [[.i .i64, .i .i64, .sl [.i .i64, .i .i64, .i .i64, .b], .i .i64, .b, .sl [.i .i64, .i .i64], .sl [.i .i64]], [.i .i64, .i .i64, .sl [.i .i64, .i .i64, .i .i64, .b], .i .i64, .b, .sl [.i .i64, .i .i64], .sl [.i .i64]]] [.b] [] [4] .no
noncomputable def g_leqShard := f_leqShard BIG
noncomputable def p_leqShard : TSp := ⟨s_leqShard, [[.i .i64, .i .i64, .sl [.i .i64, .i .i64, .i .i64, .b], .i .i64, .b, .sl [.i .i64, .i .i64], .sl [.i .i64]], [.i .i64, .i .i64, .sl [.i .i64, .i .i64, .i .i64, .b], .i .i64, .b, .sl [.i .i64, .i .i64], .sl [.i .i64]]], [.b], [], Ou.j .no, g_leqShard⟩
theorem k_leqShard : chkW PG E_leqShard 52 s_leqShard (c_leqShard.ht 22) .no = some (c_leqShard.wc E_leqShard, [4]) := by kernel_rfl
theorem ok_leqShard : p_leqShard.Ok PG 52 := mkOk (env_cons ok_leqWeb (env_cons ok_leqAnswer (env_nil PG))) k_leqShard (by kernel_rfl)
theorem e_leqShard (n : Nat) (a0 : Int × Int × List (Int × Int × Int × Bool) × Int × Bool × List (Int × Int) × List (Int)) (a1 : Int × Int × List (Int × Int × Int × Bool) × Int × Bool × List (Int × Int) × List (Int)) : f_leqShard n (a0, a1) =
  bif !decide (a0.1 = a1.1) then
   some (false, ())
  else Option.bind (g_leqWeb ((a0.2.1, a0.2.2.1), (a1.2.1, a1.2.2.1))) fun r0 =>
  bif !r0.1 then
   some (false, ())
  else Option.bind (g_leqAnswer (a0.2.2.2, a1.2.2.2)) fun r1 =>
  bif !r1.1 then
   some (false, ())
  else some (true, ()) := by kernel_rfl
/- laws.markLedgeS -/
def c_lmarkLedgeS : TC :=
 (.seq (.rg [o1 4 (.lit [.i .i64] [.int .i64 (0)])])
 (.seq (.join [⟨0, [.sl [.i .i64, .i .i64, .i .i64, .b]], false⟩, ⟨1, [.i .i64], false⟩] 4398046511075 none (.seq (.rg [o1 5 (.lit [.i .i64] [.int .i64 (0)])])
 (.block 0 (.loop [⟨0, [.sl [.i .i64, .i .i64, .i .i64, .b]], false⟩, ⟨1, [.i .i64], false⟩, ⟨5, [.i .i64], false⟩] 4398046511075
  (.seq (.seq (.rg [o1 6 (.copy 5),
    ⟨true, [], [], .det 1 (.copy 0), [7], (some 7), none⟩,
    o1 8 (.len 7),
    o1 9 (.data (.bin .lss) [.t 6, .t 8])])
  (.cond (.t 9)
   .skip
   (.exit 0)))
  (.seq (.block 1 (.seq (.rg [⟨true, [], [], .det 1 (.copy 0), [12], (some 12), none⟩,
    o1 13 (.copy 5),
    o1 14 (.copy 1),
    o1 15 (.index 12 (.t 13)),
    o1 16 (.idx (.t 15)),
    o4 1 [0, 7, 12] (.store 0 [(0, 4)] 0 (.t 16) (.t 14))])
  (.seq (.rg [o1 17 (.copy 1),
    o1 18 (.data (.bin .add) [.t 17, .c (.int .i64 (1))]),
    o1 1 (.copy 18)])
  (.seq (.rg [⟨true, [], [], .det 1 (.copy 0), [19], (some 19), none⟩,
    o1 20 (.copy 5),
    o1 21 (.copy 1),
    o1 22 (.index 19 (.t 20)),
    o1 23 (.idx (.t 22)),
    o4 1 [0, 19] (.store 0 [(0, 4)] 1 (.t 23) (.t 21))])
  (.seq (.rg [o1 24 (.copy 1),
    o1 25 (.data (.bin .add) [.t 24, .c (.int .i64 (1))]),
    o1 1 (.copy 25)])
  (.seq (.rg [⟨true, [], [], .det 1 (.copy 0), [26], (some 26), none⟩,
    o1 27 (.copy 5),
    o1 28 (.copy 1),
    o1 29 (.index 26 (.t 27)),
    o1 30 (.idx (.t 29)),
    o4 1 [0, 26] (.store 0 [(0, 4)] 2 (.t 30) (.t 28))])
  (.seq (.rg [o1 31 (.copy 1),
    o1 32 (.data (.bin .add) [.t 31, .c (.int .i64 (1))]),
    o1 1 (.copy 32)])
  (.seq (.rg [⟨true, [], [], .det 1 (.copy 0), [33], (some 33), none⟩,
    o1 34 (.copy 5),
    o1 35 (.copy 1),
    o1 36 (.data (.bin .rem) [.t 35, .c (.int .i64 (3))]),
    o1 37 (.data (.bin .eql) [.t 36, .c (.int .i64 (0))]),
    o1 38 (.index 33 (.t 34)),
    o1 39 (.idx (.t 38)),
    o4 1 [0, 33] (.store 0 [(0, 4)] 3 (.t 39) (.t 37))])
  (.rg [o1 40 (.copy 1),
    o1 41 (.data (.bin .add) [.t 40, .c (.int .i64 (1))]),
    o1 1 (.copy 41)])))))))))
  (.rg [o1 10 (.copy 5),
    o1 11 (.data (.bin .add) [.t 10, .c (.int .i64 (1))]),
    o1 5 (.copy 11)])))))))
 (.seq (.rg [o1 42 (.copy 1),
   o1 4 (.copy 42)])
 .ret)))
def s_lmarkLedgeS : Sig := ⟨[.mt false [.sl (.own none) [.d, .d, .d, .d]], .rd false [.d]], (.one false [.d])⟩
noncomputable def E_lmarkLedgeS : TEnv := envOf []
noncomputable def f_lmarkLedgeS (n : Nat) : (List (Int × Int × Int × Bool)) × Int → Option ((Int) × List (Int × Int × Int × Bool)) := runFn n E_lmarkLedgeS c_lmarkLedgeS [[.sl [.i .i64, .i .i64, .i .i64, .b]], [.i .i64]] [.i .i64] [.sl [.i .i64, .i .i64, .i .i64, .b]] [4] (.mt 0 0 0)
noncomputable def g_lmarkLedgeS := f_lmarkLedgeS BIG
noncomputable def p_lmarkLedgeS : TSp := ⟨s_lmarkLedgeS, [[.sl [.i .i64, .i .i64, .i .i64, .b]], [.i .i64]], [.i .i64], [.sl [.i .i64, .i .i64, .i .i64, .b]], Ou.j (.mt 0 0 0), g_lmarkLedgeS⟩
theorem k_lmarkLedgeS : chkW PG E_lmarkLedgeS 298 s_lmarkLedgeS (c_lmarkLedgeS.ht 43) (.mt 0 0 0) = some (c_lmarkLedgeS.wc E_lmarkLedgeS, [4]) := by kernel_rfl
theorem ok_lmarkLedgeS : p_lmarkLedgeS.Ok PG 298 := mkOk (env_nil PG) k_lmarkLedgeS (by kernel_rfl)
theorem e_lmarkLedgeS (n : Nat) (a0 : List (Int × Int × Int × Bool)) (a1 : Int) : f_lmarkLedgeS n (a0, a1) =
  Option.bind (loopT n (X := (List (Int × Int × Int × Bool)) × Int × Int) (B := (List (Int × Int × Int × Bool)) × Int) (fun self1 x0 =>
    bif decide (x0.2.2 < (x0.1.length : Int)) then
     bnd x0.1.length x0.2.2 fun n2 =>
     Option.bind x0.1[n2]? fun y3 =>
     bnd (x0.1.set n2 (x0.2.1, y3.2)).length x0.2.2 fun n4 =>
     Option.bind (x0.1.set n2 (x0.2.1, y3.2))[n4]? fun y5 =>
     bnd ((x0.1.set n2 (x0.2.1, y3.2)).set n4 (y5.1, IntKind.wrap .i64 (x0.2.1 + (1 : Int)), y5.2.2)).length x0.2.2 fun n6 =>
     Option.bind ((x0.1.set n2 (x0.2.1, y3.2)).set n4 (y5.1, IntKind.wrap .i64 (x0.2.1 + (1 : Int)), y5.2.2))[n6]? fun y7 =>
     bif decide ((3 : Int) = 0) then
      none
     else bnd (((x0.1.set n2 (x0.2.1, y3.2)).set n4 (y5.1, IntKind.wrap .i64 (x0.2.1 + (1 : Int)), y5.2.2)).set n6 (y7.1, y7.2.1, IntKind.wrap .i64 ((IntKind.wrap .i64 (x0.2.1 + (1 : Int))) + (1 : Int)), y7.2.2.2)).length x0.2.2 fun n8 =>
     Option.bind (((x0.1.set n2 (x0.2.1, y3.2)).set n4 (y5.1, IntKind.wrap .i64 (x0.2.1 + (1 : Int)), y5.2.2)).set n6 (y7.1, y7.2.1, IntKind.wrap .i64 ((IntKind.wrap .i64 (x0.2.1 + (1 : Int))) + (1 : Int)), y7.2.2.2))[n8]? fun y9 =>
     self1 ((((x0.1.set n2 (x0.2.1, y3.2)).set n4 (y5.1, IntKind.wrap .i64 (x0.2.1 + (1 : Int)), y5.2.2)).set n6 (y7.1, y7.2.1, IntKind.wrap .i64 ((IntKind.wrap .i64 (x0.2.1 + (1 : Int))) + (1 : Int)), y7.2.2.2)).set n8 (y9.1, y9.2.1, y9.2.2.1, decide ((Int.tmod (IntKind.wrap .i64 ((IntKind.wrap .i64 ((IntKind.wrap .i64 (x0.2.1 + (1 : Int))) + (1 : Int))) + (1 : Int))) (3 : Int)) = (0 : Int))), IntKind.wrap .i64 ((IntKind.wrap .i64 ((IntKind.wrap .i64 ((IntKind.wrap .i64 (x0.2.1 + (1 : Int))) + (1 : Int))) + (1 : Int))) + (1 : Int)), IntKind.wrap .i64 (x0.2.2 + (1 : Int)))
    else some (x0.1, x0.2.1)) (a0, a1, (0 : Int)) : Option ((List (Int × Int × Int × Bool)) × Int)) fun x10 =>
  some (x10.2, x10.1) := by kernel_rfl
/- laws.markWeb -/
def c_lmarkWeb : TC :=
 (.seq (.rg [⟨false, [], [], .det 2 (.a (.t 0)), [2, 0], (some 2), none⟩,
   o1 4 (.lit [.i .i64] [.int .i64 (0)])])
 (.seq (.rg [o1 5 (.idx .nil),
   o1 6 (.load 2 [] 1 (.t 5) 1 true),
   o1 7 (.copy 1),
   ⟨false, [], [], .call 2 298 [.t 6, .t 7] (.mt 2 [] 1 6 0), [8, 2, 6], (some 8), none⟩,
   o1 1 (.copy 8)])
 (.seq (.rg [o1 9 (.copy 1),
   o1 4 (.copy 9)])
 .ret)))
def s_lmarkWeb : Sig := ⟨[.mt true [.d, .sl (.own none) [.d, .d, .d, .d]], .rd false [.d]], (.one false [.d])⟩
noncomputable def E_lmarkWeb : TEnv := envOf [(298, p_lmarkLedgeS)]
noncomputable def f_lmarkWeb (n : Nat) : (Int × List (Int × Int × Int × Bool)) × Int → Option ((Int) × Int × List (Int × Int × Int × Bool)) := runFn n E_lmarkWeb c_lmarkWeb [[.i .i64, .sl [.i .i64, .i .i64, .i .i64, .b]], [.i .i64]] [.i .i64] [.i .i64, .sl [.i .i64, .i .i64, .i .i64, .b]] [4] (.mt 0 2 0)
noncomputable def g_lmarkWeb := f_lmarkWeb BIG
noncomputable def p_lmarkWeb : TSp := ⟨s_lmarkWeb, [[.i .i64, .sl [.i .i64, .i .i64, .i .i64, .b]], [.i .i64]], [.i .i64], [.i .i64, .sl [.i .i64, .i .i64, .i .i64, .b]], Ou.j (.mt 0 2 0), g_lmarkWeb⟩
theorem k_lmarkWeb : chkW PG E_lmarkWeb 182 s_lmarkWeb (c_lmarkWeb.ht 10) (.mt 0 2 0) = some (c_lmarkWeb.wc E_lmarkWeb, [4]) := by kernel_rfl
theorem ok_lmarkWeb : p_lmarkWeb.Ok PG 182 := mkOk (env_cons ok_lmarkLedgeS (env_nil PG)) k_lmarkWeb (by kernel_rfl)
theorem e_lmarkWeb (n : Nat) (a0 : Int × List (Int × Int × Int × Bool)) (a1 : Int) : f_lmarkWeb n (a0, a1) =
  Option.bind (g_lmarkLedgeS (a0.2, a1)) fun r0 =>
  some (r0.1, (a0.1, r0.2)) := by kernel_rfl
/- laws.markEdgeS -/
def c_lmarkEdgeS : TC :=
 (.seq (.rg [o1 4 (.lit [.i .i64] [.int .i64 (0)])])
 (.seq (.join [⟨0, [.sl [.i .i64, .i .i64]], false⟩, ⟨1, [.i .i64], false⟩] 67108835 none (.seq (.rg [o1 5 (.lit [.i .i64] [.int .i64 (0)])])
 (.block 0 (.loop [⟨0, [.sl [.i .i64, .i .i64]], false⟩, ⟨1, [.i .i64], false⟩, ⟨5, [.i .i64], false⟩] 67108835
  (.seq (.seq (.rg [o1 6 (.copy 5),
    ⟨true, [], [], .det 1 (.copy 0), [7], (some 7), none⟩,
    o1 8 (.len 7),
    o1 9 (.data (.bin .lss) [.t 6, .t 8])])
  (.cond (.t 9)
   .skip
   (.exit 0)))
  (.seq (.block 1 (.seq (.rg [⟨true, [], [], .det 1 (.copy 0), [12], (some 12), none⟩,
    o1 13 (.copy 5),
    o1 14 (.copy 1),
    o1 15 (.index 12 (.t 13)),
    o1 16 (.idx (.t 15)),
    o4 1 [0, 7, 12] (.store 0 [(0, 2)] 0 (.t 16) (.t 14))])
  (.seq (.rg [o1 17 (.copy 1),
    o1 18 (.data (.bin .add) [.t 17, .c (.int .i64 (1))]),
    o1 1 (.copy 18)])
  (.seq (.rg [⟨true, [], [], .det 1 (.copy 0), [19], (some 19), none⟩,
    o1 20 (.copy 5),
    o1 21 (.copy 1),
    o1 22 (.index 19 (.t 20)),
    o1 23 (.idx (.t 22)),
    o4 1 [0, 19] (.store 0 [(0, 2)] 1 (.t 23) (.t 21))])
  (.rg [o1 24 (.copy 1),
    o1 25 (.data (.bin .add) [.t 24, .c (.int .i64 (1))]),
    o1 1 (.copy 25)])))))
  (.rg [o1 10 (.copy 5),
    o1 11 (.data (.bin .add) [.t 10, .c (.int .i64 (1))]),
    o1 5 (.copy 11)])))))))
 (.seq (.rg [o1 26 (.copy 1),
   o1 4 (.copy 26)])
 .ret)))
def s_lmarkEdgeS : Sig := ⟨[.mt false [.sl (.own none) [.d, .d]], .rd false [.d]], (.one false [.d])⟩
noncomputable def E_lmarkEdgeS : TEnv := envOf []
noncomputable def f_lmarkEdgeS (n : Nat) : (List (Int × Int)) × Int → Option ((Int) × List (Int × Int)) := runFn n E_lmarkEdgeS c_lmarkEdgeS [[.sl [.i .i64, .i .i64]], [.i .i64]] [.i .i64] [.sl [.i .i64, .i .i64]] [4] (.mt 0 0 0)
noncomputable def g_lmarkEdgeS := f_lmarkEdgeS BIG
noncomputable def p_lmarkEdgeS : TSp := ⟨s_lmarkEdgeS, [[.sl [.i .i64, .i .i64]], [.i .i64]], [.i .i64], [.sl [.i .i64, .i .i64]], Ou.j (.mt 0 0 0), g_lmarkEdgeS⟩
theorem k_lmarkEdgeS : chkW PG E_lmarkEdgeS 43 s_lmarkEdgeS (c_lmarkEdgeS.ht 27) (.mt 0 0 0) = some (c_lmarkEdgeS.wc E_lmarkEdgeS, [4]) := by kernel_rfl
theorem ok_lmarkEdgeS : p_lmarkEdgeS.Ok PG 43 := mkOk (env_nil PG) k_lmarkEdgeS (by kernel_rfl)
theorem e_lmarkEdgeS (n : Nat) (a0 : List (Int × Int)) (a1 : Int) : f_lmarkEdgeS n (a0, a1) =
  Option.bind (loopT n (X := (List (Int × Int)) × Int × Int) (B := (List (Int × Int)) × Int) (fun self1 x0 =>
    bif decide (x0.2.2 < (x0.1.length : Int)) then
     bnd x0.1.length x0.2.2 fun n2 =>
     Option.bind x0.1[n2]? fun y3 =>
     bnd (x0.1.set n2 (x0.2.1, y3.2)).length x0.2.2 fun n4 =>
     Option.bind (x0.1.set n2 (x0.2.1, y3.2))[n4]? fun y5 =>
     self1 ((x0.1.set n2 (x0.2.1, y3.2)).set n4 (y5.1, IntKind.wrap .i64 (x0.2.1 + (1 : Int))), IntKind.wrap .i64 ((IntKind.wrap .i64 (x0.2.1 + (1 : Int))) + (1 : Int)), IntKind.wrap .i64 (x0.2.2 + (1 : Int)))
    else some (x0.1, x0.2.1)) (a0, a1, (0 : Int)) : Option ((List (Int × Int)) × Int)) fun x6 =>
  some (x6.2, x6.1) := by kernel_rfl
/- laws.markIntS -/
def c_lmarkIntS : TC :=
 (.seq (.rg [o1 4 (.lit [.i .i64] [.int .i64 (0)])])
 (.seq (.join [⟨0, [.sl [.i .i64]], false⟩, ⟨1, [.i .i64], false⟩] 262115 none (.seq (.rg [o1 5 (.lit [.i .i64] [.int .i64 (0)])])
 (.block 0 (.loop [⟨0, [.sl [.i .i64]], false⟩, ⟨1, [.i .i64], false⟩, ⟨5, [.i .i64], false⟩] 262115
  (.seq (.seq (.rg [o1 6 (.copy 5),
    ⟨true, [], [], .det 1 (.copy 0), [7], (some 7), none⟩,
    o1 8 (.len 7),
    o1 9 (.data (.bin .lss) [.t 6, .t 8])])
  (.cond (.t 9)
   .skip
   (.exit 0)))
  (.seq (.block 1 (.seq (.rg [⟨true, [], [], .det 1 (.copy 0), [12], (some 12), none⟩,
    o1 13 (.copy 5),
    o1 14 (.copy 1),
    o1 15 (.index 12 (.t 13)),
    o4 1 [0, 7, 12] (.store 0 [(0, 1)] 0 (.t 15) (.t 14))])
  (.rg [o1 16 (.copy 1),
    o1 17 (.data (.bin .add) [.t 16, .c (.int .i64 (1))]),
    o1 1 (.copy 17)])))
  (.rg [o1 10 (.copy 5),
    o1 11 (.data (.bin .add) [.t 10, .c (.int .i64 (1))]),
    o1 5 (.copy 11)])))))))
 (.seq (.rg [o1 18 (.copy 1),
   o1 4 (.copy 18)])
 .ret)))
def s_lmarkIntS : Sig := ⟨[.mt false [.sl (.own none) [.d]], .rd false [.d]], (.one false [.d])⟩
noncomputable def E_lmarkIntS : TEnv := envOf []
noncomputable def f_lmarkIntS (n : Nat) : List (Int) × Int → Option ((Int) × List (Int)) := runFn n E_lmarkIntS c_lmarkIntS [[.sl [.i .i64]], [.i .i64]] [.i .i64] [.sl [.i .i64]] [4] (.mt 0 0 0)
noncomputable def g_lmarkIntS := f_lmarkIntS BIG
noncomputable def p_lmarkIntS : TSp := ⟨s_lmarkIntS, [[.sl [.i .i64]], [.i .i64]], [.i .i64], [.sl [.i .i64]], Ou.j (.mt 0 0 0), g_lmarkIntS⟩
theorem k_lmarkIntS : chkW PG E_lmarkIntS 44 s_lmarkIntS (c_lmarkIntS.ht 19) (.mt 0 0 0) = some (c_lmarkIntS.wc E_lmarkIntS, [4]) := by kernel_rfl
theorem ok_lmarkIntS : p_lmarkIntS.Ok PG 44 := mkOk (env_nil PG) k_lmarkIntS (by kernel_rfl)
theorem e_lmarkIntS (n : Nat) (a0 : List (Int)) (a1 : Int) : f_lmarkIntS n (a0, a1) =
  Option.bind (loopT n (X := (List (Int)) × Int × Int) (B := (List (Int)) × Int) (fun self1 x0 =>
    bif decide (x0.2.2 < (x0.1.length : Int)) then
     bnd x0.1.length x0.2.2 fun n2 =>
     Option.bind x0.1[n2]? fun y3 =>
     self1 (x0.1.set n2 x0.2.1, IntKind.wrap .i64 (x0.2.1 + (1 : Int)), IntKind.wrap .i64 (x0.2.2 + (1 : Int)))
    else some (x0.1, x0.2.1)) (a0, a1, (0 : Int)) : Option ((List (Int)) × Int)) fun x4 =>
  some (x4.2, x4.1) := by kernel_rfl
/- laws.markAnswer -/
def c_lmarkAnswer : TC :=
 (.seq (.rg [⟨false, [], [], .det 2 (.a (.t 0)), [2, 0], (some 2), none⟩,
   o1 4 (.lit [.i .i64] [.int .i64 (0)])])
 (.seq (.rg [o1 5 (.idx .nil),
   o1 6 (.load 2 [] 2 (.t 5) 1 true),
   o1 7 (.copy 1),
   ⟨false, [], [], .call 2 43 [.t 6, .t 7] (.mt 2 [] 2 6 0), [8, 2, 6], (some 8), none⟩,
   o1 1 (.copy 8)])
 (.seq (.rg [o1 9 (.idx .nil),
   o1 10 (.load 2 [] 3 (.t 9) 1 true),
   o1 11 (.copy 1),
   ⟨false, [], [], .call 2 44 [.t 10, .t 11] (.mt 2 [] 3 10 0), [12, 2, 10], (some 12), none⟩,
   o1 1 (.copy 12)])
 (.seq (.rg [o1 13 (.copy 1),
   o1 4 (.copy 13)])
 .ret))))
def s_lmarkAnswer : Sig := ⟨[.mt true [.d, .d, .sl (.own none) [.d, .d], .sl (.own none) [.d]], .rd false [.d]], (.one false [.d])⟩
noncomputable def E_lmarkAnswer : TEnv := envOf [(43, p_lmarkEdgeS), (44, p_lmarkIntS)]
noncomputable def f_lmarkAnswer (n : Nat) : (Int × Bool × List (Int × Int) × List (Int)) × Int → Option ((Int) × Int × Bool × List (Int × Int) × List (Int)) := runFn n E_lmarkAnswer c_lmarkAnswer [[.i .i64, .b, .sl [.i .i64, .i .i64], .sl [.i .i64]], [.i .i64]] [.i .i64] [.i .i64, .b, .sl [.i .i64, .i .i64], .sl [.i .i64]] [4] (.mt 0 2 0)
noncomputable def g_lmarkAnswer := f_lmarkAnswer BIG
noncomputable def p_lmarkAnswer : TSp := ⟨s_lmarkAnswer, [[.i .i64, .b, .sl [.i .i64, .i .i64], .sl [.i .i64]], [.i .i64]], [.i .i64], [.i .i64, .b, .sl [.i .i64, .i .i64], .sl [.i .i64]], Ou.j (.mt 0 2 0), g_lmarkAnswer⟩
theorem k_lmarkAnswer : chkW PG E_lmarkAnswer 74 s_lmarkAnswer (c_lmarkAnswer.ht 14) (.mt 0 2 0) = some (c_lmarkAnswer.wc E_lmarkAnswer, [4]) := by kernel_rfl
theorem ok_lmarkAnswer : p_lmarkAnswer.Ok PG 74 := mkOk (env_cons ok_lmarkEdgeS (env_cons ok_lmarkIntS (env_nil PG))) k_lmarkAnswer (by kernel_rfl)
theorem e_lmarkAnswer (n : Nat) (a0 : Int × Bool × List (Int × Int) × List (Int)) (a1 : Int) : f_lmarkAnswer n (a0, a1) =
  Option.bind (g_lmarkEdgeS (a0.2.2.1, a1)) fun r0 =>
  Option.bind (g_lmarkIntS (a0.2.2.2, r0.1)) fun r1 =>
  some (r1.1, (a0.1, a0.2.1, r0.2, r1.2)) := by kernel_rfl
/- laws.markShard -/
def c_lmarkShard : TC :=
 (.seq (.rg [⟨false, [], [], .det 2 (.a (.t 0)), [2, 0], (some 2), none⟩,
   o1 4 (.lit [.i .i64] [.int .i64 (0)])])
 (.seq (.rg [o1 5 (.idx .nil),
   o1 6 (.load 2 [] 1 (.t 5) 2 true),
   o1 7 (.copy 1),
   ⟨false, [], [], .call 2 182 [.t 6, .t 7] (.mt 2 [] 1 6 0), [8, 2, 6], (some 8), none⟩,
   o1 1 (.copy 8)])
 (.seq (.rg [o1 9 (.idx .nil),
   o1 10 (.load 2 [] 3 (.t 9) 4 true),
   o1 11 (.copy 1),
   ⟨false, [], [], .call 2 74 [.t 10, .t 11] (.mt 2 [] 3 10 0), [12, 2, 10], (some 12), none⟩,
   o1 1 (.copy 12)])
 (.seq (.rg [o1 13 (.copy 1),
   o1 4 (.copy 13)])
 .ret))))
def s_lmarkShard : Sig := ⟨[.mt true [.d, .d, .sl (.own none) [.d, .d, .d, .d], .d, .d, .sl (.own none) [.d, .d], .sl (.own none) [.d]], .rd false [.d]], (.one false [.d])⟩
noncomputable def E_lmarkShard : TEnv := envOf [(182, p_lmarkWeb), (74, p_lmarkAnswer)]
noncomputable def f_lmarkShard (n : Nat) : (Int × Int × List (Int × Int × Int × Bool) × Int × Bool × List (Int × Int) × List (Int)) × Int → Option ((Int) × Int × Int × List (Int × Int × Int × Bool) × Int × Bool × List (Int × Int) × List (Int)) := runFn n E_lmarkShard c_lmarkShard [[.i .i64, .i .i64, .sl [.i .i64, .i .i64, .i .i64, .b], .i .i64, .b, .sl [.i .i64, .i .i64], .sl [.i .i64]], [.i .i64]] [.i .i64] [.i .i64, .i .i64, .sl [.i .i64, .i .i64, .i .i64, .b], .i .i64, .b, .sl [.i .i64, .i .i64], .sl [.i .i64]] [4] (.mt 0 2 0)
noncomputable def g_lmarkShard := f_lmarkShard BIG
noncomputable def p_lmarkShard : TSp := ⟨s_lmarkShard, [[.i .i64, .i .i64, .sl [.i .i64, .i .i64, .i .i64, .b], .i .i64, .b, .sl [.i .i64, .i .i64], .sl [.i .i64]], [.i .i64]], [.i .i64], [.i .i64, .i .i64, .sl [.i .i64, .i .i64, .i .i64, .b], .i .i64, .b, .sl [.i .i64, .i .i64], .sl [.i .i64]], Ou.j (.mt 0 2 0), g_lmarkShard⟩
theorem k_lmarkShard : chkW PG E_lmarkShard 53 s_lmarkShard (c_lmarkShard.ht 14) (.mt 0 2 0) = some (c_lmarkShard.wc E_lmarkShard, [4]) := by kernel_rfl
theorem ok_lmarkShard : p_lmarkShard.Ok PG 53 := mkOk (env_cons ok_lmarkWeb (env_cons ok_lmarkAnswer (env_nil PG))) k_lmarkShard (by kernel_rfl)
theorem e_lmarkShard (n : Nat) (a0 : Int × Int × List (Int × Int × Int × Bool) × Int × Bool × List (Int × Int) × List (Int)) (a1 : Int) : f_lmarkShard n (a0, a1) =
  Option.bind (g_lmarkWeb ((a0.2.1, a0.2.2.1), a1)) fun r0 =>
  Option.bind (g_lmarkAnswer (a0.2.2.2, r0.1)) fun r1 =>
  some (r1.1, (a0.1, a0.2.1, r0.2.2, a0.2.2.2.1, a0.2.2.2.2.1, r1.2.2.2)) := by kernel_rfl
/- laws.heldLedgeS -/
def c_lheldLedgeS : TC :=
 (.seq (.rg [o1 4 (.lit [.i .i64] [.int .i64 (0)])])
 (.seq (.join [⟨1, [.i .i64], false⟩] 1125899906842610 (some [⟨4, [.i .i64], false⟩]) (.seq (.rg [o1 5 (.lit [.i .i64] [.int .i64 (0)])])
 (.block 0 (.loop [⟨1, [.i .i64], false⟩, ⟨5, [.i .i64], false⟩] 1125899906842610
  (.seq (.seq (.rg [o1 6 (.copy 5),
    o1 7 (.copy 0),
    o1 8 (.len 7),
    o1 9 (.data (.bin .lss) [.t 6, .t 8])])
  (.cond (.t 9)
   .skip
   (.exit 0)))
  (.seq (.block 1 (.seq (.seq (.rg [o1 12 (.copy 0),
    o1 13 (.copy 5),
    o1 14 (.index 12 (.t 13)),
    o1 15 (.idx (.t 14)),
    o1 16 (.load 12 [(0, 4)] 0 (.t 15) 1 false),
    o1 17 (.copy 1),
    o1 18 (.data (.bin .neq) [.t 16, .t 17])])
  (.cond (.t 18)
   (.seq (.rg [o1 4 (.lit [.i .i64] [.int .i64 (-1)])])
   .ret)
   .skip))
  (.seq (.rg [o1 19 (.copy 1),
    o1 20 (.data (.bin .add) [.t 19, .c (.int .i64 (1))]),
    o1 1 (.copy 20)])
  (.seq (.seq (.rg [o1 21 (.copy 0),
    o1 22 (.copy 5),
    o1 23 (.index 21 (.t 22)),
    o1 24 (.idx (.t 23)),
    o1 25 (.load 21 [(0, 4)] 1 (.t 24) 1 false),
    o1 26 (.copy 1),
    o1 27 (.data (.bin .neq) [.t 25, .t 26])])
  (.cond (.t 27)
   (.seq (.rg [o1 4 (.lit [.i .i64] [.int .i64 (-1)])])
   .ret)
   .skip))
  (.seq (.rg [o1 28 (.copy 1),
    o1 29 (.data (.bin .add) [.t 28, .c (.int .i64 (1))]),
    o1 1 (.copy 29)])
  (.seq (.seq (.rg [o1 30 (.copy 0),
    o1 31 (.copy 5),
    o1 32 (.index 30 (.t 31)),
    o1 33 (.idx (.t 32)),
    o1 34 (.load 30 [(0, 4)] 2 (.t 33) 1 false),
    o1 35 (.copy 1),
    o1 36 (.data (.bin .neq) [.t 34, .t 35])])
  (.cond (.t 36)
   (.seq (.rg [o1 4 (.lit [.i .i64] [.int .i64 (-1)])])
   .ret)
   .skip))
  (.seq (.rg [o1 37 (.copy 1),
    o1 38 (.data (.bin .add) [.t 37, .c (.int .i64 (1))]),
    o1 1 (.copy 38)])
  (.seq (.seq (.rg [o1 39 (.copy 0),
    o1 40 (.copy 5),
    o1 41 (.index 39 (.t 40)),
    o1 42 (.idx (.t 41)),
    o1 43 (.load 39 [(0, 4)] 3 (.t 42) 1 false),
    o1 44 (.copy 1),
    o1 45 (.data (.bin .rem) [.t 44, .c (.int .i64 (3))]),
    o1 46 (.data (.bin .eql) [.t 45, .c (.int .i64 (0))]),
    o1 47 (.data (.beq true) [.t 43, .t 46])])
  (.cond (.t 47)
   (.seq (.rg [o1 4 (.lit [.i .i64] [.int .i64 (-1)])])
   .ret)
   .skip))
  (.rg [o1 48 (.copy 1),
    o1 49 (.data (.bin .add) [.t 48, .c (.int .i64 (1))]),
    o1 1 (.copy 49)])))))))))
  (.rg [o1 10 (.copy 5),
    o1 11 (.data (.bin .add) [.t 10, .c (.int .i64 (1))]),
    o1 5 (.copy 11)])))))))
 (.seq (.rg [o1 50 (.copy 1),
   o1 4 (.copy 50)])
 .ret)))
def s_lheldLedgeS : Sig := ⟨[.rd false [.sl (.own none) [.d, .d, .d, .d]], .rd false [.d]], (.one false [.d])⟩
noncomputable def E_lheldLedgeS : TEnv := envOf []
noncomputable def f_lheldLedgeS (n : Nat) : (List (Int × Int × Int × Bool)) × Int → Option ((Int) × Unit) := runFn n E_lheldLedgeS c_lheldLedgeS [[.sl [.i .i64, .i .i64, .i .i64, .b]], [.i .i64]] [.i .i64] [] [4] .no
noncomputable def g_lheldLedgeS := f_lheldLedgeS BIG
noncomputable def p_lheldLedgeS : TSp := ⟨s_lheldLedgeS, [[.sl [.i .i64, .i .i64, .i .i64, .b]], [.i .i64]], [.i .i64], [], Ou.j .no, g_lheldLedgeS⟩
theorem k_lheldLedgeS : chkW PG E_lheldLedgeS 299 s_lheldLedgeS (c_lheldLedgeS.ht 51) .no = some (c_lheldLedgeS.wc E_lheldLedgeS, [4]) := by kernel_rfl
theorem ok_lheldLedgeS : p_lheldLedgeS.Ok PG 299 := mkOk (env_nil PG) k_lheldLedgeS (by kernel_rfl)
theorem e_lheldLedgeS (n : Nat) (a0 : List (Int × Int × Int × Bool)) (a1 : Int) : f_lheldLedgeS n (a0, a1) =
  Option.bind (loopT n (X := Int × Int) (B := (Int) ⊕ (Int)) (fun self1 x0 =>
    bif decide (x0.2 < (a0.length : Int)) then
     bnd a0.length x0.2 fun n2 =>
     Option.bind a0[n2]? fun y3 =>
     bif !decide (y3.1 = x0.1) then
      some (Sum.inr (-1 : Int))
     else bnd a0.length x0.2 fun n4 =>
     Option.bind a0[n4]? fun y5 =>
     bif !decide (y5.2.1 = (IntKind.wrap .i64 (x0.1 + (1 : Int)))) then
      some (Sum.inr (-1 : Int))
     else bnd a0.length x0.2 fun n6 =>
     Option.bind a0[n6]? fun y7 =>
     bif !decide (y7.2.2.1 = (IntKind.wrap .i64 ((IntKind.wrap .i64 (x0.1 + (1 : Int))) + (1 : Int)))) then
      some (Sum.inr (-1 : Int))
     else bnd a0.length x0.2 fun n8 =>
     Option.bind a0[n8]? fun y9 =>
     bif decide ((3 : Int) = 0) then
      none
     else bif !(y9.2.2.2 == (decide ((Int.tmod (IntKind.wrap .i64 ((IntKind.wrap .i64 ((IntKind.wrap .i64 (x0.1 + (1 : Int))) + (1 : Int))) + (1 : Int))) (3 : Int)) = (0 : Int)))) then
      some (Sum.inr (-1 : Int))
     else self1 (IntKind.wrap .i64 ((IntKind.wrap .i64 ((IntKind.wrap .i64 ((IntKind.wrap .i64 (x0.1 + (1 : Int))) + (1 : Int))) + (1 : Int))) + (1 : Int)), IntKind.wrap .i64 (x0.2 + (1 : Int)))
    else some (Sum.inl x0.1)) (a1, (0 : Int)) : Option ((Int) ⊕ (Int))) fun y => match y with
  | .inl x10 =>
   some (x10, ())
  | .inr x10 =>
   some (x10, ()) := by kernel_rfl
/- laws.heldWeb -/
def c_lheldWeb : TC :=
 (.seq (.rg [o1 2 (.a (.t 0)),
   o1 4 (.lit [.i .i64] [.int .i64 (0)])])
 (.seq (.rg [o1 5 (.idx .nil),
   o1 6 (.load 2 [] 1 (.t 5) 1 false),
   o1 7 (.copy 1),
   o3 8 299 [.t 6, .t 7],
   o1 1 (.copy 8)])
 (.seq (.seq (.rg [o1 9 (.copy 1),
   o1 10 (.data (.bin .lss) [.t 9, .c (.int .i64 (0))])])
 (.cond (.t 10)
  (.seq (.rg [o1 4 (.lit [.i .i64] [.int .i64 (-1)])])
  .ret)
  .skip))
 (.seq (.rg [o1 11 (.copy 1),
   o1 4 (.copy 11)])
 .ret))))
def s_lheldWeb : Sig := ⟨[.rd true [.d, .sl (.own none) [.d, .d, .d, .d]], .rd false [.d]], (.one false [.d])⟩
noncomputable def E_lheldWeb : TEnv := envOf [(299, p_lheldLedgeS)]
noncomputable def f_lheldWeb (n : Nat) : (Int × List (Int × Int × Int × Bool)) × Int → Option ((Int) × Unit) := runFn n E_lheldWeb c_lheldWeb [[.i .i64, .sl [.i .i64, .i .i64, .i .i64, .b]], [.i .i64]] [.i .i64] [] [4] .no
noncomputable def g_lheldWeb := f_lheldWeb BIG
noncomputable def p_lheldWeb : TSp := ⟨s_lheldWeb, [[.i .i64, .sl [.i .i64, .i .i64, .i .i64, .b]], [.i .i64]], [.i .i64], [], Ou.j .no, g_lheldWeb⟩
theorem k_lheldWeb : chkW PG E_lheldWeb 183 s_lheldWeb (c_lheldWeb.ht 12) .no = some (c_lheldWeb.wc E_lheldWeb, [4]) := by kernel_rfl
theorem ok_lheldWeb : p_lheldWeb.Ok PG 183 := mkOk (env_cons ok_lheldLedgeS (env_nil PG)) k_lheldWeb (by kernel_rfl)
theorem e_lheldWeb (n : Nat) (a0 : Int × List (Int × Int × Int × Bool)) (a1 : Int) : f_lheldWeb n (a0, a1) =
  Option.bind (g_lheldLedgeS (a0.2, a1)) fun r0 =>
  bif decide (r0.1 < (0 : Int)) then
   some ((-1 : Int), ())
  else some (r0.1, ()) := by kernel_rfl
/- laws.heldEdgeS -/
def c_lheldEdgeS : TC :=
 (.seq (.rg [o1 4 (.lit [.i .i64] [.int .i64 (0)])])
 (.seq (.join [⟨1, [.i .i64], false⟩] 1073741810 (some [⟨4, [.i .i64], false⟩]) (.seq (.rg [o1 5 (.lit [.i .i64] [.int .i64 (0)])])
 (.block 0 (.loop [⟨1, [.i .i64], false⟩, ⟨5, [.i .i64], false⟩] 1073741810
  (.seq (.seq (.rg [o1 6 (.copy 5),
    o1 7 (.copy 0),
    o1 8 (.len 7),
    o1 9 (.data (.bin .lss) [.t 6, .t 8])])
  (.cond (.t 9)
   .skip
   (.exit 0)))
  (.seq (.block 1 (.seq (.seq (.rg [o1 12 (.copy 0),
    o1 13 (.copy 5),
    o1 14 (.index 12 (.t 13)),
    o1 15 (.idx (.t 14)),
    o1 16 (.load 12 [(0, 2)] 0 (.t 15) 1 false),
    o1 17 (.copy 1),
    o1 18 (.data (.bin .neq) [.t 16, .t 17])])
  (.cond (.t 18)
   (.seq (.rg [o1 4 (.lit [.i .i64] [.int .i64 (-1)])])
   .ret)
   .skip))
  (.seq (.rg [o1 19 (.copy 1),
    o1 20 (.data (.bin .add) [.t 19, .c (.int .i64 (1))]),
    o1 1 (.copy 20)])
  (.seq (.seq (.rg [o1 21 (.copy 0),
    o1 22 (.copy 5),
    o1 23 (.index 21 (.t 22)),
    o1 24 (.idx (.t 23)),
    o1 25 (.load 21 [(0, 2)] 1 (.t 24) 1 false),
    o1 26 (.copy 1),
    o1 27 (.data (.bin .neq) [.t 25, .t 26])])
  (.cond (.t 27)
   (.seq (.rg [o1 4 (.lit [.i .i64] [.int .i64 (-1)])])
   .ret)
   .skip))
  (.rg [o1 28 (.copy 1),
    o1 29 (.data (.bin .add) [.t 28, .c (.int .i64 (1))]),
    o1 1 (.copy 29)])))))
  (.rg [o1 10 (.copy 5),
    o1 11 (.data (.bin .add) [.t 10, .c (.int .i64 (1))]),
    o1 5 (.copy 11)])))))))
 (.seq (.rg [o1 30 (.copy 1),
   o1 4 (.copy 30)])
 .ret)))
def s_lheldEdgeS : Sig := ⟨[.rd false [.sl (.own none) [.d, .d]], .rd false [.d]], (.one false [.d])⟩
noncomputable def E_lheldEdgeS : TEnv := envOf []
noncomputable def f_lheldEdgeS (n : Nat) : (List (Int × Int)) × Int → Option ((Int) × Unit) := runFn n E_lheldEdgeS c_lheldEdgeS [[.sl [.i .i64, .i .i64]], [.i .i64]] [.i .i64] [] [4] .no
noncomputable def g_lheldEdgeS := f_lheldEdgeS BIG
noncomputable def p_lheldEdgeS : TSp := ⟨s_lheldEdgeS, [[.sl [.i .i64, .i .i64]], [.i .i64]], [.i .i64], [], Ou.j .no, g_lheldEdgeS⟩
theorem k_lheldEdgeS : chkW PG E_lheldEdgeS 63 s_lheldEdgeS (c_lheldEdgeS.ht 31) .no = some (c_lheldEdgeS.wc E_lheldEdgeS, [4]) := by kernel_rfl
theorem ok_lheldEdgeS : p_lheldEdgeS.Ok PG 63 := mkOk (env_nil PG) k_lheldEdgeS (by kernel_rfl)
theorem e_lheldEdgeS (n : Nat) (a0 : List (Int × Int)) (a1 : Int) : f_lheldEdgeS n (a0, a1) =
  Option.bind (loopT n (X := Int × Int) (B := (Int) ⊕ (Int)) (fun self1 x0 =>
    bif decide (x0.2 < (a0.length : Int)) then
     bnd a0.length x0.2 fun n2 =>
     Option.bind a0[n2]? fun y3 =>
     bif !decide (y3.1 = x0.1) then
      some (Sum.inr (-1 : Int))
     else bnd a0.length x0.2 fun n4 =>
     Option.bind a0[n4]? fun y5 =>
     bif !decide (y5.2 = (IntKind.wrap .i64 (x0.1 + (1 : Int)))) then
      some (Sum.inr (-1 : Int))
     else self1 (IntKind.wrap .i64 ((IntKind.wrap .i64 (x0.1 + (1 : Int))) + (1 : Int)), IntKind.wrap .i64 (x0.2 + (1 : Int)))
    else some (Sum.inl x0.1)) (a1, (0 : Int)) : Option ((Int) ⊕ (Int))) fun y => match y with
  | .inl x6 =>
   some (x6, ())
  | .inr x6 =>
   some (x6, ()) := by kernel_rfl
/- laws.heldIntS -/
def c_lheldIntS : TC :=
 (.seq (.rg [o1 4 (.lit [.i .i64] [.int .i64 (0)])])
 (.seq (.join [⟨1, [.i .i64], false⟩] 1048562 (some [⟨4, [.i .i64], false⟩]) (.seq (.rg [o1 5 (.lit [.i .i64] [.int .i64 (0)])])
 (.block 0 (.loop [⟨1, [.i .i64], false⟩, ⟨5, [.i .i64], false⟩] 1048562
  (.seq (.seq (.rg [o1 6 (.copy 5),
    o1 7 (.copy 0),
    o1 8 (.len 7),
    o1 9 (.data (.bin .lss) [.t 6, .t 8])])
  (.cond (.t 9)
   .skip
   (.exit 0)))
  (.seq (.block 1 (.seq (.seq (.rg [o1 12 (.copy 0),
    o1 13 (.copy 5),
    o1 14 (.index 12 (.t 13)),
    o1 15 (.load 12 [(0, 1)] 0 (.t 14) 1 false),
    o1 16 (.copy 1),
    o1 17 (.data (.bin .neq) [.t 15, .t 16])])
  (.cond (.t 17)
   (.seq (.rg [o1 4 (.lit [.i .i64] [.int .i64 (-1)])])
   .ret)
   .skip))
  (.rg [o1 18 (.copy 1),
    o1 19 (.data (.bin .add) [.t 18, .c (.int .i64 (1))]),
    o1 1 (.copy 19)])))
  (.rg [o1 10 (.copy 5),
    o1 11 (.data (.bin .add) [.t 10, .c (.int .i64 (1))]),
    o1 5 (.copy 11)])))))))
 (.seq (.rg [o1 20 (.copy 1),
   o1 4 (.copy 20)])
 .ret)))
def s_lheldIntS : Sig := ⟨[.rd false [.sl (.own none) [.d]], .rd false [.d]], (.one false [.d])⟩
noncomputable def E_lheldIntS : TEnv := envOf []
noncomputable def f_lheldIntS (n : Nat) : List (Int) × Int → Option ((Int) × Unit) := runFn n E_lheldIntS c_lheldIntS [[.sl [.i .i64]], [.i .i64]] [.i .i64] [] [4] .no
noncomputable def g_lheldIntS := f_lheldIntS BIG
noncomputable def p_lheldIntS : TSp := ⟨s_lheldIntS, [[.sl [.i .i64]], [.i .i64]], [.i .i64], [], Ou.j .no, g_lheldIntS⟩
theorem k_lheldIntS : chkW PG E_lheldIntS 45 s_lheldIntS (c_lheldIntS.ht 21) .no = some (c_lheldIntS.wc E_lheldIntS, [4]) := by kernel_rfl
theorem ok_lheldIntS : p_lheldIntS.Ok PG 45 := mkOk (env_nil PG) k_lheldIntS (by kernel_rfl)
theorem e_lheldIntS (n : Nat) (a0 : List (Int)) (a1 : Int) : f_lheldIntS n (a0, a1) =
  Option.bind (loopT n (X := Int × Int) (B := (Int) ⊕ (Int)) (fun self1 x0 =>
    bif decide (x0.2 < (a0.length : Int)) then
     bnd a0.length x0.2 fun n2 =>
     Option.bind a0[n2]? fun y3 =>
     bif !decide (y3 = x0.1) then
      some (Sum.inr (-1 : Int))
     else self1 (IntKind.wrap .i64 (x0.1 + (1 : Int)), IntKind.wrap .i64 (x0.2 + (1 : Int)))
    else some (Sum.inl x0.1)) (a1, (0 : Int)) : Option ((Int) ⊕ (Int))) fun y => match y with
  | .inl x4 =>
   some (x4, ())
  | .inr x4 =>
   some (x4, ()) := by kernel_rfl
/- laws.heldAnswer -/
def c_lheldAnswer : TC :=
 (.seq (.rg [o1 2 (.a (.t 0)),
   o1 4 (.lit [.i .i64] [.int .i64 (0)])])
 (.seq (.rg [o1 5 (.idx .nil),
   o1 6 (.load 2 [] 2 (.t 5) 1 false),
   o1 7 (.copy 1),
   o3 8 63 [.t 6, .t 7],
   o1 1 (.copy 8)])
 (.seq (.seq (.rg [o1 9 (.copy 1),
   o1 10 (.data (.bin .lss) [.t 9, .c (.int .i64 (0))])])
 (.cond (.t 10)
  (.seq (.rg [o1 4 (.lit [.i .i64] [.int .i64 (-1)])])
  .ret)
  .skip))
 (.seq (.rg [o1 11 (.idx .nil),
   o1 12 (.load 2 [] 3 (.t 11) 1 false),
   o1 13 (.copy 1),
   o3 14 45 [.t 12, .t 13],
   o1 1 (.copy 14)])
 (.seq (.seq (.rg [o1 15 (.copy 1),
   o1 16 (.data (.bin .lss) [.t 15, .c (.int .i64 (0))])])
 (.cond (.t 16)
  (.seq (.rg [o1 4 (.lit [.i .i64] [.int .i64 (-1)])])
  .ret)
  .skip))
 (.seq (.rg [o1 17 (.copy 1),
   o1 4 (.copy 17)])
 .ret))))))
def s_lheldAnswer : Sig := ⟨[.rd true [.d, .d, .sl (.own none) [.d, .d], .sl (.own none) [.d]], .rd false [.d]], (.one false [.d])⟩
noncomputable def E_lheldAnswer : TEnv := envOf [(63, p_lheldEdgeS), (45, p_lheldIntS)]
noncomputable def f_lheldAnswer (n : Nat) : (Int × Bool × List (Int × Int) × List (Int)) × Int → Option ((Int) × Unit) := runFn n E_lheldAnswer c_lheldAnswer [[.i .i64, .b, .sl [.i .i64, .i .i64], .sl [.i .i64]], [.i .i64]] [.i .i64] [] [4] .no
noncomputable def g_lheldAnswer := f_lheldAnswer BIG
noncomputable def p_lheldAnswer : TSp := ⟨s_lheldAnswer, [[.i .i64, .b, .sl [.i .i64, .i .i64], .sl [.i .i64]], [.i .i64]], [.i .i64], [], Ou.j .no, g_lheldAnswer⟩
theorem k_lheldAnswer : chkW PG E_lheldAnswer 75 s_lheldAnswer (c_lheldAnswer.ht 18) .no = some (c_lheldAnswer.wc E_lheldAnswer, [4]) := by kernel_rfl
theorem ok_lheldAnswer : p_lheldAnswer.Ok PG 75 := mkOk (env_cons ok_lheldEdgeS (env_cons ok_lheldIntS (env_nil PG))) k_lheldAnswer (by kernel_rfl)
theorem e_lheldAnswer (n : Nat) (a0 : Int × Bool × List (Int × Int) × List (Int)) (a1 : Int) : f_lheldAnswer n (a0, a1) =
  Option.bind (g_lheldEdgeS (a0.2.2.1, a1)) fun r0 =>
  bif decide (r0.1 < (0 : Int)) then
   some ((-1 : Int), ())
  else Option.bind (g_lheldIntS (a0.2.2.2, r0.1)) fun r1 =>
  bif decide (r1.1 < (0 : Int)) then
   some ((-1 : Int), ())
  else some (r1.1, ()) := by kernel_rfl
/- laws.heldShard -/
def c_lheldShard : TC :=
 (.seq (.rg [o1 2 (.a (.t 0)),
   o1 4 (.lit [.i .i64] [.int .i64 (0)])])
 (.seq (.rg [o1 5 (.idx .nil),
   o1 6 (.load 2 [] 1 (.t 5) 2 false),
   o1 7 (.copy 1),
   o3 8 183 [.t 6, .t 7],
   o1 1 (.copy 8)])
 (.seq (.seq (.rg [o1 9 (.copy 1),
   o1 10 (.data (.bin .lss) [.t 9, .c (.int .i64 (0))])])
 (.cond (.t 10)
  (.seq (.rg [o1 4 (.lit [.i .i64] [.int .i64 (-1)])])
  .ret)
  .skip))
 (.seq (.rg [o1 11 (.idx .nil),
   o1 12 (.load 2 [] 3 (.t 11) 4 false),
   o1 13 (.copy 1),
   o3 14 75 [.t 12, .t 13],
   o1 1 (.copy 14)])
 (.seq (.seq (.rg [o1 15 (.copy 1),
   o1 16 (.data (.bin .lss) [.t 15, .c (.int .i64 (0))])])
 (.cond (.t 16)
  (.seq (.rg [o1 4 (.lit [.i .i64] [.int .i64 (-1)])])
  .ret)
  .skip))
 (.seq (.rg [o1 17 (.copy 1),
   o1 4 (.copy 17)])
 .ret))))))
def s_lheldShard : Sig := ⟨[.rd true [.d, .d, .sl (.own none) [.d, .d, .d, .d], .d, .d, .sl (.own none) [.d, .d], .sl (.own none) [.d]], .rd false [.d]], (.one false [.d])⟩
noncomputable def E_lheldShard : TEnv := envOf [(183, p_lheldWeb), (75, p_lheldAnswer)]
noncomputable def f_lheldShard (n : Nat) : (Int × Int × List (Int × Int × Int × Bool) × Int × Bool × List (Int × Int) × List (Int)) × Int → Option ((Int) × Unit) := runFn n E_lheldShard c_lheldShard [[.i .i64, .i .i64, .sl [.i .i64, .i .i64, .i .i64, .b], .i .i64, .b, .sl [.i .i64, .i .i64], .sl [.i .i64]], [.i .i64]] [.i .i64] [] [4] .no
noncomputable def g_lheldShard := f_lheldShard BIG
noncomputable def p_lheldShard : TSp := ⟨s_lheldShard, [[.i .i64, .i .i64, .sl [.i .i64, .i .i64, .i .i64, .b], .i .i64, .b, .sl [.i .i64, .i .i64], .sl [.i .i64]], [.i .i64]], [.i .i64], [], Ou.j .no, g_lheldShard⟩
theorem k_lheldShard : chkW PG E_lheldShard 54 s_lheldShard (c_lheldShard.ht 18) .no = some (c_lheldShard.wc E_lheldShard, [4]) := by kernel_rfl
theorem ok_lheldShard : p_lheldShard.Ok PG 54 := mkOk (env_cons ok_lheldWeb (env_cons ok_lheldAnswer (env_nil PG))) k_lheldShard (by kernel_rfl)
theorem e_lheldShard (n : Nat) (a0 : Int × Int × List (Int × Int × Int × Bool) × Int × Bool × List (Int × Int) × List (Int)) (a1 : Int) : f_lheldShard n (a0, a1) =
  Option.bind (g_lheldWeb ((a0.2.1, a0.2.2.1), a1)) fun r0 =>
  bif decide (r0.1 < (0 : Int)) then
   some ((-1 : Int), ())
  else Option.bind (g_lheldAnswer (a0.2.2.2, r0.1)) fun r1 =>
  bif decide (r1.1 < (0 : Int)) then
   some ((-1 : Int), ())
  else some (r1.1, ()) := by kernel_rfl
/- laws.FnExactShardNew -/
def c_lFnExactShardNew : TC :=
 (.seq (.rg [o1 4 (.lit [.b] [.bool false])])
 (.seq (.rg [o1 14 (.copy 0),
   o1 15 (.copy 1),
   o3 16 30 [.t 14, .t 15],
   ⟨false, [], [], .det 2 (.copy 16), [13, 16], (some 13), none⟩,
   ⟨false, [], [], .det 2 (.ext 13 0 7), [17, 13], (some 17), none⟩,
   o1 18 (.ext 13 7 1),
   ⟨false, [], [], .det 2 (.a (.c [.i .i64, .i .i64, .sl [.i .i64, .i .i64, .i .i64, .b], .i .i64, .b, .sl [.i .i64, .i .i64], .sl [.i .i64]] [.int .i64 (0), .int .i64 (0), .slice none 0 0, .int .i64 (0), .bool false, .slice none 0 0, .slice none 0 0])), [5, 1000000001], (some 5), none⟩,
   o4 2 [5, 17] (.store 5 [] 0 .nil (.t 17)),
   o1 6 (.copy 18)])
 (.seq (.rg [o1 20 (.copy 0),
   o1 21 (.copy 1),
   o3 22 29 [.t 20, .t 21],
   ⟨false, [], [], .det 2 (.copy 22), [19, 22], (some 19), none⟩,
   ⟨false, [], [], .det 2 (.ext 19 0 7), [23, 19], (some 23), none⟩,
   o1 24 (.ext 19 7 1),
   ⟨false, [], [], .det 2 (.a (.c [.i .i64, .i .i64, .sl [.i .i64, .i .i64, .i .i64, .b], .i .i64, .b, .sl [.i .i64, .i .i64], .sl [.i .i64]] [.int .i64 (0), .int .i64 (0), .slice none 0 0, .int .i64 (0), .bool false, .slice none 0 0, .slice none 0 0])), [7, 1000000001], (some 7), none⟩,
   o4 2 [7, 23] (.store 7 [] 0 .nil (.t 23)),
   o1 8 (.copy 24)])
 (.seq (.seq (.join [⟨33, [.b], false⟩] 17146314752 none (.rg [o1 25 (.load 7 [] 0 .nil 7 true),
   o1 26 (.load 5 [] 0 .nil 7 true),
   o3 27 52 [.t 25, .t 26],
   o1 28 (.data .not [.t 27]),
   o1 29 (.copy 28),
   o2 30 (.copy 8) 4 false,
   o2 31 (.copy 6) 4 false,
   o2 32 (.data (.beq true) [.t 30, .t 31]) 4 false,
   ⟨false, [], [], .pick 29 (.c (.bool true)) (.t 32), [33], (some 33), none⟩]))
 (.cond (.t 33)
  (.seq (.rg [o1 4 (.lit [.b] [.bool false])])
  .ret)
  .skip))
 (.seq (.rg [o1 9 (.lit [.i .i64] [.int .i64 (1)])])
 (.seq (.rg [o1 34 (.load 7 [] 0 .nil 7 true),
   o1 35 (.copy 9),
   ⟨false, [], [], .call 2 53 [.t 34, .t 35] (.mt 7 [] 0 34 0), [36, 7, 25, 34], (some 36), none⟩,
   o1 9 (.copy 36)])
 (.seq (.rg [o1 10 (.lit [.i .i64] [.int .i64 (1)])])
 (.seq (.rg [o1 37 (.load 7 [] 0 .nil 7 true),
   o1 38 (.copy 10),
   o3 39 54 [.t 37, .t 38],
   o1 10 (.copy 39)])
 (.seq (.seq (.rg [o1 40 (.copy 10),
   o1 41 (.data (.bin .lss) [.t 40, .c (.int .i64 (0))])])
 (.cond (.t 41)
  (.seq (.rg [o1 4 (.lit [.b] [.bool false])])
  .ret)
  .skip))
 (.seq (.seq (.rg [o1 42 (.copy 10),
   o1 43 (.copy 9),
   o1 44 (.data (.bin .neq) [.t 42, .t 43])])
 (.cond (.t 44)
  (.seq (.rg [o1 4 (.lit [.b] [.bool false])])
  .ret)
  .skip))
 (.seq (.rg [o1 46 (.copy 0),
   o1 47 (.copy 1),
   o3 48 29 [.t 46, .t 47],
   ⟨false, [], [], .det 2 (.copy 48), [45, 48], (some 45), none⟩,
   ⟨false, [], [], .det 2 (.ext 45 0 7), [49, 45], (some 49), none⟩,
   o1 50 (.ext 45 7 1),
   ⟨false, [], [], .det 2 (.a (.c [.i .i64, .i .i64, .sl [.i .i64, .i .i64, .i .i64, .b], .i .i64, .b, .sl [.i .i64, .i .i64], .sl [.i .i64]] [.int .i64 (0), .int .i64 (0), .slice none 0 0, .int .i64 (0), .bool false, .slice none 0 0, .slice none 0 0])), [11, 1000000001], (some 11), none⟩,
   o4 2 [11, 49] (.store 11 [] 0 .nil (.t 49)),
   o1 12 (.copy 50)])
 (.seq (.seq (.join [⟨59, [.b], false⟩] 1150669704793161728 none (.rg [o1 51 (.load 11 [] 0 .nil 7 true),
   o1 52 (.load 5 [] 0 .nil 7 true),
   o3 53 52 [.t 51, .t 52],
   o1 54 (.data .not [.t 53]),
   o1 55 (.copy 54),
   o2 56 (.copy 12) 4 false,
   o2 57 (.copy 6) 4 false,
   o2 58 (.data (.beq true) [.t 56, .t 57]) 4 false,
   ⟨false, [], [], .pick 55 (.c (.bool true)) (.t 58), [59], (some 59), none⟩]))
 (.cond (.t 59)
  (.seq (.rg [o1 4 (.lit [.b] [.bool false])])
  .ret)
  .skip))
 (.seq (.rg [o1 10 (.lit [.i .i64] [.int .i64 (1)])])
 (.seq (.rg [o1 60 (.load 7 [] 0 .nil 7 true),
   o1 61 (.copy 10),
   o3 62 54 [.t 60, .t 61],
   o1 10 (.copy 62)])
 (.seq (.seq (.rg [o1 63 (.copy 10),
   o1 64 (.data (.bin .lss) [.t 63, .c (.int .i64 (0))])])
 (.cond (.t 64)
  (.seq (.rg [o1 4 (.lit [.b] [.bool false])])
  .ret)
  .skip))
 (.seq (.seq (.rg [o1 65 (.copy 10),
   o1 66 (.copy 9),
   o1 67 (.data (.bin .neq) [.t 65, .t 66])])
 (.cond (.t 67)
  (.seq (.rg [o1 4 (.lit [.b] [.bool false])])
  .ret)
  .skip))
 (.seq (.rg [o1 4 (.lit [.b] [.bool true])])
 .ret)))))))))))))))))
def s_lFnExactShardNew : Sig := ⟨[.rd false [.d], .rd false [.d]], (.one false [.d])⟩
noncomputable def E_lFnExactShardNew : TEnv := envOf [(30, p_sShardNew), (29, p_iShardNew), (52, p_leqShard), (53, p_lmarkShard), (54, p_lheldShard)]
noncomputable def f_lFnExactShardNew (n : Nat) : Int × Int → Option ((Bool) × Unit) := runFn n E_lFnExactShardNew c_lFnExactShardNew [[.i .i64], [.i .i64]] [.b] [] [4] .no
noncomputable def g_lFnExactShardNew := f_lFnExactShardNew BIG
noncomputable def p_lFnExactShardNew : TSp := ⟨s_lFnExactShardNew, [[.i .i64], [.i .i64]], [.b], [], Ou.j .no, g_lFnExactShardNew⟩
theorem k_lFnExactShardNew : chkW PG E_lFnExactShardNew 6 s_lFnExactShardNew (c_lFnExactShardNew.ht 68) .no = some (c_lFnExactShardNew.wc E_lFnExactShardNew, [4]) := by kernel_rfl
theorem ok_lFnExactShardNew : p_lFnExactShardNew.Ok PG 6 := mkOk (env_cons ok_sShardNew (env_cons ok_iShardNew (env_cons ok_leqShard (env_cons ok_lmarkShard (env_cons ok_lheldShard (env_nil PG)))))) k_lFnExactShardNew (by kernel_rfl)
theorem e_lFnExactShardNew (n : Nat) (a0 : Int) (a1 : Int) : f_lFnExactShardNew n (a0, a1) =
  Option.bind (g_sShardNew (a0, a1)) fun r0 =>
  Option.bind (g_iShardNew (a0, a1)) fun r1 =>
  Option.bind (Option.bind (g_leqShard ((r1.1.1, r1.1.2.1, r1.1.2.2.1, r1.1.2.2.2.1, r1.1.2.2.2.2.1, r1.1.2.2.2.2.2.1, r1.1.2.2.2.2.2.2.1), (r0.1.1, r0.1.2.1, r0.1.2.2.1, r0.1.2.2.2.1, r0.1.2.2.2.2.1, r0.1.2.2.2.2.2.1, r0.1.2.2.2.2.2.2.1))) fun r2 =>
   bif !r2.1 then
    some true
   else some (!(r1.1.2.2.2.2.2.2.2 == r0.1.2.2.2.2.2.2.2)) : Option (Bool)) fun x3 =>
  bif x3 then
   some (false, ())
  else Option.bind (g_lmarkShard ((r1.1.1, r1.1.2.1, r1.1.2.2.1, r1.1.2.2.2.1, r1.1.2.2.2.2.1, r1.1.2.2.2.2.2.1, r1.1.2.2.2.2.2.2.1), (1 : Int))) fun r4 =>
  Option.bind (g_lheldShard (r4.2, (1 : Int))) fun r5 =>
  bif decide (r5.1 < (0 : Int)) then
   some (false, ())
  else bif !decide (r5.1 = r4.1) then
   some (false, ())
  else Option.bind (g_iShardNew (a0, a1)) fun r6 =>
  Option.bind (Option.bind (g_leqShard ((r6.1.1, r6.1.2.1, r6.1.2.2.1, r6.1.2.2.2.1, r6.1.2.2.2.2.1, r6.1.2.2.2.2.2.1, r6.1.2.2.2.2.2.2.1), (r0.1.1, r0.1.2.1, r0.1.2.2.1, r0.1.2.2.2.1, r0.1.2.2.2.2.1, r0.1.2.2.2.2.2.1, r0.1.2.2.2.2.2.2.1))) fun r7 =>
   bif !r7.1 then
    some true
   else some (!(r6.1.2.2.2.2.2.2.2 == r0.1.2.2.2.2.2.2.2)) : Option (Bool)) fun x8 =>
  bif x8 then
   some (false, ())
  else Option.bind (g_lheldShard (r4.2, (1 : Int))) fun r9 =>
  bif decide (r9.1 < (0 : Int)) then
   some (false, ())
  else bif !decide (r9.1 = r4.1) then
   some (false, ())
  else some (true, ()) := by kernel_rfl
end Go.Fw
