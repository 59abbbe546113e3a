/- The given functions, as what they compute; each is shown to be what the code does. No conditions. -/
import Derived.Test.YthgfbaannligeaaG4
import Derived.Test.YthgfbaannligeaaProg
set_option linter.unusedVariables false
set_option linter.unusedSimpArgs false
namespace Go.Fw
noncomputable abbrev PG := Go.Proofs.Try.prog
def o2 (d : Nat) (e : ED) (j : Nat) (b : Bool) : TO := ⟨false, [], [], .det 1 e, [d], some d, some (j, b)⟩
def o3 (d : Nat) (K : FuncId) (gets : List OY) : TO := ⟨false, [], [], .call 1 K gets .no, [d], some d, none⟩
def o4 (n : Nat) (ds : List Nat) (e : ED) : TO := ⟨false, [], [], .det n e, ds, none, none⟩
end Go.Fw
namespace Go.Fw
/- laws.szLedgeS -/
def c_lszLedgeS : TC :=
 (.seq (.rg [o1 4 (.lit [.i .i64] [.int .i64 (0)])])
 (.seq (.rg [o1 5 (.copy 1),
   o1 6 (.copy 0),
   o1 7 (.len 6),
   o1 8 (.data (.bin .sub) [.t 5, .t 7]),
   o1 1 (.copy 8)])
 (.seq (.seq (.rg [o1 9 (.copy 1),
   o1 10 (.data (.bin .lss) [.t 9, .c (.int .i64 (0))])])
 (.cond (.t 10)
  (.seq (.rg [o1 4 (.lit [.i .i64] [.int .i64 (-1)])])
  .ret)
  .skip))
 (.seq (.rg [o1 11 (.copy 1),
   o1 4 (.copy 11)])
 .ret))))
def s_lszLedgeS : Sig := ⟨[.rd false [.sl (.own none) [.d, .d, .d, .d]], .rd false [.d]], (.one false [.d])⟩
noncomputable def E_lszLedgeS : TEnv := envOf []
noncomputable def f_lszLedgeS (n : Nat) : (List (Int × Int × Int × Bool)) × Int → Option ((Int) × Unit) := runFn n E_lszLedgeS c_lszLedgeS [[.sl [.i .i64, .i .i64, .i .i64, .b]], [.i .i64]] [.i .i64] [] [4] .no
noncomputable def g_lszLedgeS := f_lszLedgeS BIG
noncomputable def p_lszLedgeS : TSp := ⟨s_lszLedgeS, [[.sl [.i .i64, .i .i64, .i .i64, .b]], [.i .i64]], [.i .i64], [], Ou.j .no, g_lszLedgeS⟩
theorem k_lszLedgeS : chkW PG E_lszLedgeS 304 s_lszLedgeS (c_lszLedgeS.ht 12) .no = some (c_lszLedgeS.wc E_lszLedgeS, [4]) := by kernel_rfl
theorem ok_lszLedgeS : p_lszLedgeS.Ok PG 304 := mkOk (env_nil PG) k_lszLedgeS (by kernel_rfl)
theorem e_lszLedgeS (n : Nat) (a0 : List (Int × Int × Int × Bool)) (a1 : Int) : f_lszLedgeS n (a0, a1) =
  bif decide ((IntKind.wrap .i64 (a1 - (a0.length : Int))) < (0 : Int)) then
   some ((-1 : Int), ())
  else some (IntKind.wrap .i64 (a1 - (a0.length : Int)), ()) := by kernel_rfl
/- laws.szWeb -/
def c_lszWeb : TC :=
 (.seq (.rg [o1 2 (.a (.t 0)),
   o1 4 (.lit [.i .i64] [.int .i64 (0)])])
 (.seq (.rg [o1 5 (.idx .nil),
   o1 6 (.load 2 [] 1 (.t 5) 1 false),
   o1 7 (.copy 1),
   o3 8 304 [.t 6, .t 7],
   o1 1 (.copy 8)])
 (.seq (.seq (.rg [o1 9 (.copy 1),
   o1 10 (.data (.bin .lss) [.t 9, .c (.int .i64 (0))])])
 (.cond (.t 10)
  (.seq (.rg [o1 4 (.lit [.i .i64] [.int .i64 (-1)])])
  .ret)
  .skip))
 (.seq (.rg [o1 11 (.copy 1),
   o1 4 (.copy 11)])
 .ret))))
def s_lszWeb : Sig := ⟨[.rd true [.d, .sl (.own none) [.d, .d, .d, .d]], .rd false [.d]], (.one false [.d])⟩
noncomputable def E_lszWeb : TEnv := envOf [(304, p_lszLedgeS)]
noncomputable def f_lszWeb (n : Nat) : (Int × List (Int × Int × Int × Bool)) × Int → Option ((Int) × Unit) := runFn n E_lszWeb c_lszWeb [[.i .i64, .sl [.i .i64, .i .i64, .i .i64, .b]], [.i .i64]] [.i .i64] [] [4] .no
noncomputable def g_lszWeb := f_lszWeb BIG
noncomputable def p_lszWeb : TSp := ⟨s_lszWeb, [[.i .i64, .sl [.i .i64, .i .i64, .i .i64, .b]], [.i .i64]], [.i .i64], [], Ou.j .no, g_lszWeb⟩
theorem k_lszWeb : chkW PG E_lszWeb 192 s_lszWeb (c_lszWeb.ht 12) .no = some (c_lszWeb.wc E_lszWeb, [4]) := by kernel_rfl
theorem ok_lszWeb : p_lszWeb.Ok PG 192 := mkOk (env_cons ok_lszLedgeS (env_nil PG)) k_lszWeb (by kernel_rfl)
theorem e_lszWeb (n : Nat) (a0 : Int × List (Int × Int × Int × Bool)) (a1 : Int) : f_lszWeb n (a0, a1) =
  Option.bind (g_lszLedgeS (a0.2, a1)) fun r0 =>
  bif decide (r0.1 < (0 : Int)) then
   some ((-1 : Int), ())
  else some (r0.1, ()) := by kernel_rfl
/- laws.szEdgeS -/
def c_lszEdgeS : TC :=
 (.seq (.rg [o1 4 (.lit [.i .i64] [.int .i64 (0)])])
 (.seq (.rg [o1 5 (.copy 1),
   o1 6 (.copy 0),
   o1 7 (.len 6),
   o1 8 (.data (.bin .sub) [.t 5, .t 7]),
   o1 1 (.copy 8)])
 (.seq (.seq (.rg [o1 9 (.copy 1),
   o1 10 (.data (.bin .lss) [.t 9, .c (.int .i64 (0))])])
 (.cond (.t 10)
  (.seq (.rg [o1 4 (.lit [.i .i64] [.int .i64 (-1)])])
  .ret)
  .skip))
 (.seq (.rg [o1 11 (.copy 1),
   o1 4 (.copy 11)])
 .ret))))
def s_lszEdgeS : Sig := ⟨[.rd false [.sl (.own none) [.d, .d]], .rd false [.d]], (.one false [.d])⟩
noncomputable def E_lszEdgeS : TEnv := envOf []
noncomputable def f_lszEdgeS (n : Nat) : (List (Int × Int)) × Int → Option ((Int) × Unit) := runFn n E_lszEdgeS c_lszEdgeS [[.sl [.i .i64, .i .i64]], [.i .i64]] [.i .i64] [] [4] .no
noncomputable def g_lszEdgeS := f_lszEdgeS BIG
noncomputable def p_lszEdgeS : TSp := ⟨s_lszEdgeS, [[.sl [.i .i64, .i .i64]], [.i .i64]], [.i .i64], [], Ou.j .no, g_lszEdgeS⟩
theorem k_lszEdgeS : chkW PG E_lszEdgeS 34 s_lszEdgeS (c_lszEdgeS.ht 12) .no = some (c_lszEdgeS.wc E_lszEdgeS, [4]) := by kernel_rfl
theorem ok_lszEdgeS : p_lszEdgeS.Ok PG 34 := mkOk (env_nil PG) k_lszEdgeS (by kernel_rfl)
theorem e_lszEdgeS (n : Nat) (a0 : List (Int × Int)) (a1 : Int) : f_lszEdgeS n (a0, a1) =
  bif decide ((IntKind.wrap .i64 (a1 - (a0.length : Int))) < (0 : Int)) then
   some ((-1 : Int), ())
  else some (IntKind.wrap .i64 (a1 - (a0.length : Int)), ()) := by kernel_rfl
/- laws.szIntS -/
def c_lszIntS : TC :=
 (.seq (.rg [o1 4 (.lit [.i .i64] [.int .i64 (0)])])
 (.seq (.rg [o1 5 (.copy 1),
   o1 6 (.copy 0),
   o1 7 (.len 6),
   o1 8 (.data (.bin .sub) [.t 5, .t 7]),
   o1 1 (.copy 8)])
 (.seq (.seq (.rg [o1 9 (.copy 1),
   o1 10 (.data (.bin .lss) [.t 9, .c (.int .i64 (0))])])
 (.cond (.t 10)
  (.seq (.rg [o1 4 (.lit [.i .i64] [.int .i64 (-1)])])
  .ret)
  .skip))
 (.seq (.rg [o1 11 (.copy 1),
   o1 4 (.copy 11)])
 .ret))))
def s_lszIntS : Sig := ⟨[.rd false [.sl (.own none) [.d]], .rd false [.d]], (.one false [.d])⟩
noncomputable def E_lszIntS : TEnv := envOf []
noncomputable def f_lszIntS (n : Nat) : List (Int) × Int → Option ((Int) × Unit) := runFn n E_lszIntS c_lszIntS [[.sl [.i .i64]], [.i .i64]] [.i .i64] [] [4] .no
noncomputable def g_lszIntS := f_lszIntS BIG
noncomputable def p_lszIntS : TSp := ⟨s_lszIntS, [[.sl [.i .i64]], [.i .i64]], [.i .i64], [], Ou.j .no, g_lszIntS⟩
theorem k_lszIntS : chkW PG E_lszIntS 166 s_lszIntS (c_lszIntS.ht 12) .no = some (c_lszIntS.wc E_lszIntS, [4]) := by kernel_rfl
theorem ok_lszIntS : p_lszIntS.Ok PG 166 := mkOk (env_nil PG) k_lszIntS (by kernel_rfl)
theorem e_lszIntS (n : Nat) (a0 : List (Int)) (a1 : Int) : f_lszIntS n (a0, a1) =
  bif decide ((IntKind.wrap .i64 (a1 - (a0.length : Int))) < (0 : Int)) then
   some ((-1 : Int), ())
  else some (IntKind.wrap .i64 (a1 - (a0.length : Int)), ()) := by kernel_rfl
/- laws.szAnswer -/
def c_lszAnswer : TC :=
 (.seq (.rg [o1 2 (.a (.t 0)),
   o1 4 (.lit [.i .i64] [.int .i64 (0)])])
 (.seq (.rg [o1 5 (.idx .nil),
   o1 6 (.load 2 [] 2 (.t 5) 1 false),
   o1 7 (.copy 1),
   o3 8 34 [.t 6, .t 7],
   o1 1 (.copy 8)])
 (.seq (.seq (.rg [o1 9 (.copy 1),
   o1 10 (.data (.bin .lss) [.t 9, .c (.int .i64 (0))])])
 (.cond (.t 10)
  (.seq (.rg [o1 4 (.lit [.i .i64] [.int .i64 (-1)])])
  .ret)
  .skip))
 (.seq (.rg [o1 11 (.idx .nil),
   o1 12 (.load 2 [] 3 (.t 11) 1 false),
   o1 13 (.copy 1),
   o3 14 166 [.t 12, .t 13],
   o1 1 (.copy 14)])
 (.seq (.seq (.rg [o1 15 (.copy 1),
   o1 16 (.data (.bin .lss) [.t 15, .c (.int .i64 (0))])])
 (.cond (.t 16)
  (.seq (.rg [o1 4 (.lit [.i .i64] [.int .i64 (-1)])])
  .ret)
  .skip))
 (.seq (.rg [o1 17 (.copy 1),
   o1 4 (.copy 17)])
 .ret))))))
def s_lszAnswer : Sig := ⟨[.rd true [.d, .d, .sl (.own none) [.d, .d], .sl (.own none) [.d]], .rd false [.d]], (.one false [.d])⟩
noncomputable def E_lszAnswer : TEnv := envOf [(34, p_lszEdgeS), (166, p_lszIntS)]
noncomputable def f_lszAnswer (n : Nat) : (Int × Bool × List (Int × Int) × List (Int)) × Int → Option ((Int) × Unit) := runFn n E_lszAnswer c_lszAnswer [[.i .i64, .b, .sl [.i .i64, .i .i64], .sl [.i .i64]], [.i .i64]] [.i .i64] [] [4] .no
noncomputable def g_lszAnswer := f_lszAnswer BIG
noncomputable def p_lszAnswer : TSp := ⟨s_lszAnswer, [[.i .i64, .b, .sl [.i .i64, .i .i64], .sl [.i .i64]], [.i .i64]], [.i .i64], [], Ou.j .no, g_lszAnswer⟩
theorem k_lszAnswer : chkW PG E_lszAnswer 193 s_lszAnswer (c_lszAnswer.ht 18) .no = some (c_lszAnswer.wc E_lszAnswer, [4]) := by kernel_rfl
theorem ok_lszAnswer : p_lszAnswer.Ok PG 193 := mkOk (env_cons ok_lszEdgeS (env_cons ok_lszIntS (env_nil PG))) k_lszAnswer (by kernel_rfl)
theorem e_lszAnswer (n : Nat) (a0 : Int × Bool × List (Int × Int) × List (Int)) (a1 : Int) : f_lszAnswer n (a0, a1) =
  Option.bind (g_lszEdgeS (a0.2.2.1, a1)) fun r0 =>
  bif decide (r0.1 < (0 : Int)) then
   some ((-1 : Int), ())
  else Option.bind (g_lszIntS (a0.2.2.2, r0.1)) fun r1 =>
  bif decide (r1.1 < (0 : Int)) then
   some ((-1 : Int), ())
  else some (r1.1, ()) := by kernel_rfl
/- laws.szShard -/
def c_lszShard : TC :=
 (.seq (.rg [o1 2 (.a (.t 0)),
   o1 4 (.lit [.i .i64] [.int .i64 (0)])])
 (.seq (.rg [o1 5 (.idx .nil),
   o1 6 (.load 2 [] 1 (.t 5) 2 false),
   o1 7 (.copy 1),
   o3 8 192 [.t 6, .t 7],
   o1 1 (.copy 8)])
 (.seq (.seq (.rg [o1 9 (.copy 1),
   o1 10 (.data (.bin .lss) [.t 9, .c (.int .i64 (0))])])
 (.cond (.t 10)
  (.seq (.rg [o1 4 (.lit [.i .i64] [.int .i64 (-1)])])
  .ret)
  .skip))
 (.seq (.rg [o1 11 (.idx .nil),
   o1 12 (.load 2 [] 3 (.t 11) 4 false),
   o1 13 (.copy 1),
   o3 14 193 [.t 12, .t 13],
   o1 1 (.copy 14)])
 (.seq (.seq (.rg [o1 15 (.copy 1),
   o1 16 (.data (.bin .lss) [.t 15, .c (.int .i64 (0))])])
 (.cond (.t 16)
  (.seq (.rg [o1 4 (.lit [.i .i64] [.int .i64 (-1)])])
  .ret)
  .skip))
 (.seq (.rg [o1 17 (.copy 1),
   o1 4 (.copy 17)])
 .ret))))))
def s_lszShard : Sig := ⟨[.rd true [.d, .d, .sl (.own none) [.d, .d, .d, .d], .d, .d, .sl (.own none) [.d, .d], .sl (.own none) [.d]], .rd false [.d]], (.one false [.d])⟩
noncomputable def E_lszShard : TEnv := envOf [(192, p_lszWeb), (193, p_lszAnswer)]
noncomputable def f_lszShard (n : Nat) : (Int × Int × List (Int × Int × Int × Bool) × Int × Bool × List (Int × Int) × List (Int)) × Int → Option ((Int) × Unit) := runFn n E_lszShard c_lszShard [[.i .i64, .i .i64, .sl [.i .i64, .i .i64, .i .i64, .b], .i .i64, .b, .sl [.i .i64, .i .i64], .sl [.i .i64]], [.i .i64]] [.i .i64] [] [4] .no
noncomputable def g_lszShard := f_lszShard BIG
noncomputable def p_lszShard : TSp := ⟨s_lszShard, [[.i .i64, .i .i64, .sl [.i .i64, .i .i64, .i .i64, .b], .i .i64, .b, .sl [.i .i64, .i .i64], .sl [.i .i64]], [.i .i64]], [.i .i64], [], Ou.j .no, g_lszShard⟩
theorem k_lszShard : chkW PG E_lszShard 60 s_lszShard (c_lszShard.ht 18) .no = some (c_lszShard.wc E_lszShard, [4]) := by kernel_rfl
theorem ok_lszShard : p_lszShard.Ok PG 60 := mkOk (env_cons ok_lszWeb (env_cons ok_lszAnswer (env_nil PG))) k_lszShard (by kernel_rfl)
theorem e_lszShard (n : Nat) (a0 : Int × Int × List (Int × Int × Int × Bool) × Int × Bool × List (Int × Int) × List (Int)) (a1 : Int) : f_lszShard n (a0, a1) =
  Option.bind (g_lszWeb ((a0.2.1, a0.2.2.1), a1)) fun r0 =>
  bif decide (r0.1 < (0 : Int)) then
   some ((-1 : Int), ())
  else Option.bind (g_lszAnswer (a0.2.2.2, r0.1)) fun r1 =>
  bif decide (r1.1 < (0 : Int)) then
   some ((-1 : Int), ())
  else some (r1.1, ()) := by kernel_rfl
/- laws.toLedge -/
def c_ltoLedge : TC :=
 (.seq (.rg [o1 1 (.a (.t 0)),
   ⟨false, [], [], .det 2 (.a (.c [.i .i64, .i .i64, .i .i64, .b] [.int .i64 (0), .int .i64 (0), .int .i64 (0), .bool false])), [2, 1000000001], (some 2), none⟩])
 (.seq (.rg [⟨false, [], [], .det 2 (.a (.c [.i .i64, .i .i64, .i .i64, .b] [.int .i64 (0), .int .i64 (0), .int .i64 (0), .bool false])), [3, 1000000001], (some 3), none⟩])
 (.seq (.rg [o1 4 (.idx .nil),
   o1 5 (.load 1 [] 0 (.t 4) 1 false),
   o1 6 (.idx .nil),
   o4 1 [3] (.store 3 [] 0 (.t 6) (.t 5))])
 (.seq (.rg [o1 7 (.idx .nil),
   o1 8 (.load 1 [] 1 (.t 7) 1 false),
   o1 9 (.idx .nil),
   o4 1 [3] (.store 3 [] 1 (.t 9) (.t 8))])
 (.seq (.rg [o1 10 (.idx .nil),
   o1 11 (.load 1 [] 2 (.t 10) 1 false),
   o1 12 (.idx .nil),
   o4 1 [3] (.store 3 [] 2 (.t 12) (.t 11))])
 (.seq (.rg [o1 13 (.idx .nil),
   o1 14 (.load 1 [] 3 (.t 13) 1 false),
   o1 15 (.idx .nil),
   o4 1 [3] (.store 3 [] 3 (.t 15) (.t 14))])
 (.seq (.rg [o1 16 (.load 3 [] 0 .nil 4 false),
   o4 1 [2] (.store 2 [] 0 .nil (.t 16))])
 .ret)))))))
def s_ltoLedge : Sig := ⟨[.rd true [.d, .d, .d, .d]], (.one true [.d, .d, .d, .d])⟩
noncomputable def E_ltoLedge : TEnv := envOf []
noncomputable def f_ltoLedge (n : Nat) : (Int × Int × Int × Bool) → Option ((Int × Int × Int × Bool) × Unit) := runFn n E_ltoLedge c_ltoLedge [[.i .i64, .i .i64, .i .i64, .b]] [.i .i64, .i .i64, .i .i64, .b] [] [2] .no
noncomputable def g_ltoLedge := f_ltoLedge BIG
noncomputable def p_ltoLedge : TSp := ⟨s_ltoLedge, [[.i .i64, .i .i64, .i .i64, .b]], [.i .i64, .i .i64, .i .i64, .b], [], Ou.j .no, g_ltoLedge⟩
theorem k_ltoLedge : chkW PG E_ltoLedge 348 s_ltoLedge (c_ltoLedge.ht 17) .no = some (c_ltoLedge.wc E_ltoLedge, [2]) := by kernel_rfl
theorem ok_ltoLedge : p_ltoLedge.Ok PG 348 := mkOk (env_nil PG) k_ltoLedge (by kernel_rfl)
theorem e_ltoLedge (n : Nat) (a0 : Int × Int × Int × Bool) : f_ltoLedge n a0 =
  some (a0, ()) := by kernel_rfl
/- laws.toLedgeS -/
def c_ltoLedgeS : TC :=
 (.seq (.rg [o1 2 (.lit [.sl [.i .i64, .i .i64, .i .i64, .b]] [.slice none 0 0])])
 (.seq (.rg [o1 5 (.copy 0),
   o1 6 (.len 5),
   o1 7 (.make (.t 6) [.i .i64, .i .i64, .i .i64, .b]),
   ⟨false, [], [], .det 2 (.copy 7), [3, 7], (some 3), none⟩])
 (.seq (.join [⟨3, [.sl [.i .i64, .i .i64, .i .i64, .b]], false⟩] 4194072 none (.seq (.rg [o1 4 (.lit [.i .i64] [.int .i64 (0)])])
 (.block 0 (.loop [⟨3, [.sl [.i .i64, .i .i64, .i .i64, .b]], false⟩, ⟨4, [.i .i64], false⟩] 4194072
  (.seq (.seq (.rg [o1 8 (.copy 4),
    o1 9 (.copy 0),
    o1 10 (.len 9),
    o1 11 (.data (.bin .lss) [.t 8, .t 10])])
  (.cond (.t 11)
   .skip
   (.exit 0)))
  (.seq (.block 1 (.rg [⟨true, [], [], .det 1 (.copy 3), [14], (some 14), none⟩,
    o1 15 (.copy 4),
    o1 16 (.copy 0),
    o1 17 (.copy 4),
    o1 18 (.index 16 (.t 17)),
    o1 19 (.load 16 [(0, 4)] 0 (.t 18) 4 false),
    o3 20 348 [.t 19],
    o1 21 (.index 14 (.t 15)),
    o4 1 [3, 14] (.store 3 [(0, 4)] 0 (.t 21) (.t 20))]))
  (.rg [o1 12 (.copy 4),
    o1 13 (.data (.bin .add) [.t 12, .c (.int .i64 (1))]),
    o1 4 (.copy 13)])))))))
 (.seq (.rg [⟨false, [], [], .det 2 (.copy 3), [22, 3], (some 22), none⟩,
   ⟨false, [], [], .det 2 (.copy 22), [2, 22], (some 2), none⟩])
 .ret))))
def s_ltoLedgeS : Sig := ⟨[.rd false [.sl (.own none) [.d, .d, .d, .d]]], (.one false [.sl (.own none) [.d, .d, .d, .d]])⟩
noncomputable def E_ltoLedgeS : TEnv := envOf [(348, p_ltoLedge)]
noncomputable def f_ltoLedgeS (n : Nat) : (List (Int × Int × Int × Bool)) → Option ((List (Int × Int × Int × Bool)) × Unit) := runFn n E_ltoLedgeS c_ltoLedgeS [[.sl [.i .i64, .i .i64, .i .i64, .b]]] [.sl [.i .i64, .i .i64, .i .i64, .b]] [] [2] .no
noncomputable def g_ltoLedgeS := f_ltoLedgeS BIG
noncomputable def p_ltoLedgeS : TSp := ⟨s_ltoLedgeS, [[.sl [.i .i64, .i .i64, .i .i64, .b]]], [.sl [.i .i64, .i .i64, .i .i64, .b]], [], Ou.j .no, g_ltoLedgeS⟩
theorem k_ltoLedgeS : chkW PG E_ltoLedgeS 305 s_ltoLedgeS (c_ltoLedgeS.ht 23) .no = some (c_ltoLedgeS.wc E_ltoLedgeS, [2]) := by kernel_rfl
theorem ok_ltoLedgeS : p_ltoLedgeS.Ok PG 305 := mkOk (env_cons ok_ltoLedge (env_nil PG)) k_ltoLedgeS (by kernel_rfl)
theorem e_ltoLedgeS (n : Nat) (a0 : List (Int × Int × Int × Bool)) : f_ltoLedgeS n a0 =
  bif decide (0 ≤ (a0.length : Int)) then
   bif decide ((Int.toNat (a0.length : Int)) ≤ 4294967296) then
    Option.bind (loopT n (X := (List (Int × Int × Int × Bool)) × Int) (B := (List (Int × Int × Int × Bool))) (fun self1 x0 =>
      bif decide (x0.2 < (a0.length : Int)) then
       bnd a0.length x0.2 fun n2 =>
       Option.bind a0[n2]? fun y3 =>
       Option.bind (g_ltoLedge y3) fun r4 =>
       bnd x0.1.length x0.2 fun n5 =>
       Option.bind x0.1[n5]? fun y6 =>
       self1 (x0.1.set n5 r4.1, IntKind.wrap .i64 (x0.2 + (1 : Int)))
      else some x0.1) (List.replicate (Int.toNat (a0.length : Int)) ((0 : Int), (0 : Int), (0 : Int), false), (0 : Int)) : Option ((List (Int × Int × Int × Bool)))) fun x7 =>
    some (x7, ())
   else none
  else none := by kernel_rfl
/- laws.toWeb -/
def c_ltoWeb : TC :=
 (.seq (.rg [o1 1 (.a (.t 0)),
   ⟨false, [], [], .det 2 (.a (.c [.i .i64, .sl [.i .i64, .i .i64, .i .i64, .b]] [.int .i64 (0), .slice none 0 0])), [2, 1000000001], (some 2), none⟩])
 (.seq (.rg [⟨false, [], [], .det 2 (.a (.c [.i .i64, .sl [.i .i64, .i .i64, .i .i64, .b]] [.int .i64 (0), .slice none 0 0])), [3, 1000000001], (some 3), none⟩])
 (.seq (.rg [o1 4 (.idx .nil),
   o1 5 (.load 1 [] 0 (.t 4) 1 false),
   o1 6 (.idx .nil),
   o4 1 [3] (.store 3 [] 0 (.t 6) (.t 5))])
 (.seq (.rg [o1 7 (.idx .nil),
   o1 8 (.load 1 [] 1 (.t 7) 1 false),
   o3 9 305 [.t 8],
   o1 10 (.idx .nil),
   o4 2 [3, 9] (.store 3 [] 1 (.t 10) (.t 9))])
 (.seq (.rg [o1 11 (.load 3 [] 0 .nil 2 true),
   ⟨false, [11], [], .det 2 (.store 2 [] 0 .nil (.t 11)), [2, 11, 11, 3], none, none⟩])
 .ret)))))
def s_ltoWeb : Sig := ⟨[.rd true [.d, .sl (.own none) [.d, .d, .d, .d]]], (.one true [.d, .sl (.own none) [.d, .d, .d, .d]])⟩
noncomputable def E_ltoWeb : TEnv := envOf [(305, p_ltoLedgeS)]
noncomputable def f_ltoWeb (n : Nat) : (Int × List (Int × Int × Int × Bool)) → Option ((Int × List (Int × Int × Int × Bool)) × Unit) := runFn n E_ltoWeb c_ltoWeb [[.i .i64, .sl [.i .i64, .i .i64, .i .i64, .b]]] [.i .i64, .sl [.i .i64, .i .i64, .i .i64, .b]] [] [2] .no
noncomputable def g_ltoWeb := f_ltoWeb BIG
noncomputable def p_ltoWeb : TSp := ⟨s_ltoWeb, [[.i .i64, .sl [.i .i64, .i .i64, .i .i64, .b]]], [.i .i64, .sl [.i .i64, .i .i64, .i .i64, .b]], [], Ou.j .no, g_ltoWeb⟩
theorem k_ltoWeb : chkW PG E_ltoWeb 195 s_ltoWeb (c_ltoWeb.ht 12) .no = some (c_ltoWeb.wc E_ltoWeb, [2]) := by kernel_rfl
theorem ok_ltoWeb : p_ltoWeb.Ok PG 195 := mkOk (env_cons ok_ltoLedgeS (env_nil PG)) k_ltoWeb (by kernel_rfl)
theorem e_ltoWeb (n : Nat) (a0 : Int × List (Int × Int × Int × Bool)) : f_ltoWeb n a0 =
  Option.bind (g_ltoLedgeS a0.2) fun r0 =>
  some ((a0.1, r0.1), ()) := by kernel_rfl
/- laws.toEdge -/
def c_ltoEdge : TC :=
 (.seq (.rg [o1 1 (.a (.t 0)),
   ⟨false, [], [], .det 2 (.a (.c [.i .i64, .i .i64] [.int .i64 (0), .int .i64 (0)])), [2, 1000000001], (some 2), none⟩])
 (.seq (.rg [⟨false, [], [], .det 2 (.a (.c [.i .i64, .i .i64] [.int .i64 (0), .int .i64 (0)])), [3, 1000000001], (some 3), none⟩])
 (.seq (.rg [o1 4 (.idx .nil),
   o1 5 (.load 1 [] 0 (.t 4) 1 false),
   o1 6 (.idx .nil),
   o4 1 [3] (.store 3 [] 0 (.t 6) (.t 5))])
 (.seq (.rg [o1 7 (.idx .nil),
   o1 8 (.load 1 [] 1 (.t 7) 1 false),
   o1 9 (.idx .nil),
   o4 1 [3] (.store 3 [] 1 (.t 9) (.t 8))])
 (.seq (.rg [o1 10 (.load 3 [] 0 .nil 2 false),
   o4 1 [2] (.store 2 [] 0 .nil (.t 10))])
 .ret)))))
def s_ltoEdge : Sig := ⟨[.rd true [.d, .d]], (.one true [.d, .d])⟩
noncomputable def E_ltoEdge : TEnv := envOf []
noncomputable def f_ltoEdge (n : Nat) : (Int × Int) → Option ((Int × Int) × Unit) := runFn n E_ltoEdge c_ltoEdge [[.i .i64, .i .i64]] [.i .i64, .i .i64] [] [2] .no
noncomputable def g_ltoEdge := f_ltoEdge BIG
noncomputable def p_ltoEdge : TSp := ⟨s_ltoEdge, [[.i .i64, .i .i64]], [.i .i64, .i .i64], [], Ou.j .no, g_ltoEdge⟩
theorem k_ltoEdge : chkW PG E_ltoEdge 170 s_ltoEdge (c_ltoEdge.ht 11) .no = some (c_ltoEdge.wc E_ltoEdge, [2]) := by kernel_rfl
theorem ok_ltoEdge : p_ltoEdge.Ok PG 170 := mkOk (env_nil PG) k_ltoEdge (by kernel_rfl)
theorem e_ltoEdge (n : Nat) (a0 : Int × Int) : f_ltoEdge n a0 =
  some (a0, ()) := by kernel_rfl
/- laws.toEdgeS -/
def c_ltoEdgeS : TC :=
 (.seq (.rg [o1 2 (.lit [.sl [.i .i64, .i .i64]] [.slice none 0 0])])
 (.seq (.rg [o1 5 (.copy 0),
   o1 6 (.len 5),
   o1 7 (.make (.t 6) [.i .i64, .i .i64]),
   ⟨false, [], [], .det 2 (.copy 7), [3, 7], (some 3), none⟩])
 (.seq (.join [⟨3, [.sl [.i .i64, .i .i64]], false⟩] 4194072 none (.seq (.rg [o1 4 (.lit [.i .i64] [.int .i64 (0)])])
 (.block 0 (.loop [⟨3, [.sl [.i .i64, .i .i64]], false⟩, ⟨4, [.i .i64], false⟩] 4194072
  (.seq (.seq (.rg [o1 8 (.copy 4),
    o1 9 (.copy 0),
    o1 10 (.len 9),
    o1 11 (.data (.bin .lss) [.t 8, .t 10])])
  (.cond (.t 11)
   .skip
   (.exit 0)))
  (.seq (.block 1 (.rg [⟨true, [], [], .det 1 (.copy 3), [14], (some 14), none⟩,
    o1 15 (.copy 4),
    o1 16 (.copy 0),
    o1 17 (.copy 4),
    o1 18 (.index 16 (.t 17)),
    o1 19 (.load 16 [(0, 2)] 0 (.t 18) 2 false),
    o3 20 170 [.t 19],
    o1 21 (.index 14 (.t 15)),
    o4 1 [3, 14] (.store 3 [(0, 2)] 0 (.t 21) (.t 20))]))
  (.rg [o1 12 (.copy 4),
    o1 13 (.data (.bin .add) [.t 12, .c (.int .i64 (1))]),
    o1 4 (.copy 13)])))))))
 (.seq (.rg [⟨false, [], [], .det 2 (.copy 3), [22, 3], (some 22), none⟩,
   ⟨false, [], [], .det 2 (.copy 22), [2, 22], (some 2), none⟩])
 .ret))))
def s_ltoEdgeS : Sig := ⟨[.rd false [.sl (.own none) [.d, .d]]], (.one false [.sl (.own none) [.d, .d]])⟩
noncomputable def E_ltoEdgeS : TEnv := envOf [(170, p_ltoEdge)]
noncomputable def f_ltoEdgeS (n : Nat) : (List (Int × Int)) → Option ((List (Int × Int)) × Unit) := runFn n E_ltoEdgeS c_ltoEdgeS [[.sl [.i .i64, .i .i64]]] [.sl [.i .i64, .i .i64]] [] [2] .no
noncomputable def g_ltoEdgeS := f_ltoEdgeS BIG
noncomputable def p_ltoEdgeS : TSp := ⟨s_ltoEdgeS, [[.sl [.i .i64, .i .i64]]], [.sl [.i .i64, .i .i64]], [], Ou.j .no, g_ltoEdgeS⟩
theorem k_ltoEdgeS : chkW PG E_ltoEdgeS 37 s_ltoEdgeS (c_ltoEdgeS.ht 23) .no = some (c_ltoEdgeS.wc E_ltoEdgeS, [2]) := by kernel_rfl
theorem ok_ltoEdgeS : p_ltoEdgeS.Ok PG 37 := mkOk (env_cons ok_ltoEdge (env_nil PG)) k_ltoEdgeS (by kernel_rfl)
theorem e_ltoEdgeS (n : Nat) (a0 : List (Int × Int)) : f_ltoEdgeS n a0 =
  bif decide (0 ≤ (a0.length : Int)) then
   bif decide ((Int.toNat (a0.length : Int)) ≤ 4294967296) then
    Option.bind (loopT n (X := (List (Int × Int)) × Int) (B := (List (Int × Int))) (fun self1 x0 =>
      bif decide (x0.2 < (a0.length : Int)) then
       bnd a0.length x0.2 fun n2 =>
       Option.bind a0[n2]? fun y3 =>
       Option.bind (g_ltoEdge y3) fun r4 =>
       bnd x0.1.length x0.2 fun n5 =>
       Option.bind x0.1[n5]? fun y6 =>
       self1 (x0.1.set n5 r4.1, IntKind.wrap .i64 (x0.2 + (1 : Int)))
      else some x0.1) (List.replicate (Int.toNat (a0.length : Int)) ((0 : Int), (0 : Int)), (0 : Int)) : Option ((List (Int × Int)))) fun x7 =>
    some (x7, ())
   else none
  else none := by kernel_rfl
/- laws.toIntS -/
def c_ltoIntS : TC :=
 (.seq (.rg [o1 2 (.lit [.sl [.i .i64]] [.slice none 0 0])])
 (.seq (.rg [o1 5 (.copy 0),
   o1 6 (.len 5),
   o1 7 (.make (.t 6) [.i .i64]),
   ⟨false, [], [], .det 2 (.copy 7), [3, 7], (some 3), none⟩])
 (.seq (.join [⟨3, [.sl [.i .i64]], false⟩] 2096920 none (.seq (.rg [o1 4 (.lit [.i .i64] [.int .i64 (0)])])
 (.block 0 (.loop [⟨3, [.sl [.i .i64]], false⟩, ⟨4, [.i .i64], false⟩] 2096920
  (.seq (.seq (.rg [o1 8 (.copy 4),
    o1 9 (.copy 0),
    o1 10 (.len 9),
    o1 11 (.data (.bin .lss) [.t 8, .t 10])])
  (.cond (.t 11)
   .skip
   (.exit 0)))
  (.seq (.block 1 (.rg [⟨true, [], [], .det 1 (.copy 3), [14], (some 14), none⟩,
    o1 15 (.copy 4),
    o1 16 (.copy 0),
    o1 17 (.copy 4),
    o1 18 (.index 16 (.t 17)),
    o1 19 (.load 16 [(0, 1)] 0 (.t 18) 1 false),
    o1 20 (.index 14 (.t 15)),
    o4 1 [3, 14] (.store 3 [(0, 1)] 0 (.t 20) (.t 19))]))
  (.rg [o1 12 (.copy 4),
    o1 13 (.data (.bin .add) [.t 12, .c (.int .i64 (1))]),
    o1 4 (.copy 13)])))))))
 (.seq (.rg [⟨false, [], [], .det 2 (.copy 3), [21, 3], (some 21), none⟩,
   ⟨false, [], [], .det 2 (.copy 21), [2, 21], (some 2), none⟩])
 .ret))))
def s_ltoIntS : Sig := ⟨[.rd false [.sl (.own none) [.d]]], (.one false [.sl (.own none) [.d]])⟩
noncomputable def E_ltoIntS : TEnv := envOf []
noncomputable def f_ltoIntS (n : Nat) : List (Int) → Option ((List (Int)) × Unit) := runFn n E_ltoIntS c_ltoIntS [[.sl [.i .i64]]] [.sl [.i .i64]] [] [2] .no
noncomputable def g_ltoIntS := f_ltoIntS BIG
noncomputable def p_ltoIntS : TSp := ⟨s_ltoIntS, [[.sl [.i .i64]]], [.sl [.i .i64]], [], Ou.j .no, g_ltoIntS⟩
theorem k_ltoIntS : chkW PG E_ltoIntS 169 s_ltoIntS (c_ltoIntS.ht 22) .no = some (c_ltoIntS.wc E_ltoIntS, [2]) := by kernel_rfl
theorem ok_ltoIntS : p_ltoIntS.Ok PG 169 := mkOk (env_nil PG) k_ltoIntS (by kernel_rfl)
theorem e_ltoIntS (n : Nat) (a0 : List (Int)) : f_ltoIntS n a0 =
  bif decide (0 ≤ (a0.length : Int)) then
   bif decide ((Int.toNat (a0.length : Int)) ≤ 4294967296) then
    Option.bind (loopT n (X := (List (Int)) × Int) (B := (List (Int))) (fun self1 x0 =>
      bif decide (x0.2 < (a0.length : Int)) then
       bnd a0.length x0.2 fun n2 =>
       Option.bind a0[n2]? fun y3 =>
       bnd x0.1.length x0.2 fun n4 =>
       Option.bind x0.1[n4]? fun y5 =>
       self1 (x0.1.set n4 y3, IntKind.wrap .i64 (x0.2 + (1 : Int)))
      else some x0.1) (List.replicate (Int.toNat (a0.length : Int)) (0 : Int), (0 : Int)) : Option ((List (Int)))) fun x6 =>
    some (x6, ())
   else none
  else none := by kernel_rfl
/- laws.toAnswer -/
def c_ltoAnswer : TC :=
 (.seq (.rg [o1 1 (.a (.t 0)),
   ⟨false, [], [], .det 2 (.a (.c [.i .i64, .b, .sl [.i .i64, .i .i64], .sl [.i .i64]] [.int .i64 (0), .bool false, .slice none 0 0, .slice none 0 0])), [2, 1000000001], (some 2), none⟩])
 (.seq (.rg [⟨false, [], [], .det 2 (.a (.c [.i .i64, .b, .sl [.i .i64, .i .i64], .sl [.i .i64]] [.int .i64 (0), .bool false, .slice none 0 0, .slice none 0 0])), [3, 1000000001], (some 3), none⟩])
 (.seq (.rg [o1 4 (.idx .nil),
   o1 5 (.load 1 [] 0 (.t 4) 1 false),
   o1 6 (.idx .nil),
   o4 1 [3] (.store 3 [] 0 (.t 6) (.t 5))])
 (.seq (.rg [o1 7 (.idx .nil),
   o1 8 (.load 1 [] 1 (.t 7) 1 false),
   o1 9 (.idx .nil),
   o4 1 [3] (.store 3 [] 1 (.t 9) (.t 8))])
 (.seq (.rg [o1 10 (.idx .nil),
   o1 11 (.load 1 [] 2 (.t 10) 1 false),
   o3 12 37 [.t 11],
   o1 13 (.idx .nil),
   o4 2 [3, 12] (.store 3 [] 2 (.t 13) (.t 12))])
 (.seq (.rg [o1 14 (.idx .nil),
   o1 15 (.load 1 [] 3 (.t 14) 1 false),
   o3 16 169 [.t 15],
   o1 17 (.idx .nil),
   o4 2 [3, 16] (.store 3 [] 3 (.t 17) (.t 16))])
 (.seq (.rg [o1 18 (.load 3 [] 0 .nil 4 true),
   ⟨false, [18], [], .det 2 (.store 2 [] 0 .nil (.t 18)), [2, 18, 18, 3], none, none⟩])
 .ret)))))))
def s_ltoAnswer : Sig := ⟨[.rd true [.d, .d, .sl (.own none) [.d, .d], .sl (.own none) [.d]]], (.one true [.d, .d, .sl (.own none) [.d, .d], .sl (.own none) [.d]])⟩
noncomputable def E_ltoAnswer : TEnv := envOf [(37, p_ltoEdgeS), (169, p_ltoIntS)]
noncomputable def f_ltoAnswer (n : Nat) : (Int × Bool × List (Int × Int) × List (Int)) → Option ((Int × Bool × List (Int × Int) × List (Int)) × Unit) := runFn n E_ltoAnswer c_ltoAnswer [[.i .i64, .b, .sl [.i .i64, .i .i64], .sl [.i .i64]]] [.i .i64, .b, .sl [.i .i64, .i .i64], .sl [.i .i64]] [] [2] .no
noncomputable def g_ltoAnswer := f_ltoAnswer BIG
noncomputable def p_ltoAnswer : TSp := ⟨s_ltoAnswer, [[.i .i64, .b, .sl [.i .i64, .i .i64], .sl [.i .i64]]], [.i .i64, .b, .sl [.i .i64, .i .i64], .sl [.i .i64]], [], Ou.j .no, g_ltoAnswer⟩
theorem k_ltoAnswer : chkW PG E_ltoAnswer 196 s_ltoAnswer (c_ltoAnswer.ht 19) .no = some (c_ltoAnswer.wc E_ltoAnswer, [2]) := by kernel_rfl
theorem ok_ltoAnswer : p_ltoAnswer.Ok PG 196 := mkOk (env_cons ok_ltoEdgeS (env_cons ok_ltoIntS (env_nil PG))) k_ltoAnswer (by kernel_rfl)
theorem e_ltoAnswer (n : Nat) (a0 : Int × Bool × List (Int × Int) × List (Int)) : f_ltoAnswer n a0 =
  Option.bind (g_ltoEdgeS a0.2.2.1) fun r0 =>
  Option.bind (g_ltoIntS a0.2.2.2) fun r1 =>
  some ((a0.1, a0.2.1, r0.1, r1.1), ()) := by kernel_rfl
/- laws.toShard -/
def c_ltoShard : TC :=
 (.seq (.rg [o1 1 (.a (.t 0)),
   ⟨false, [], [], .det 2 (.a (.c [.i .i64, .i .i64, .sl [.i .i64, .i .i64, .i .i64, .b], .i .i64, .b, .sl [.i .i64, .i .i64], .sl [.i .i64]] [.int .i64 (0), .int .i64 (0), .slice none 0 0, .int .i64 (0), .bool false, .slice none 0 0, .slice none 0 0])), [2, 1000000001], (some 2), none⟩])
 (.seq (.rg [⟨false, [], [], .det 2 (.a (.c [.i .i64, .i .i64, .sl [.i .i64, .i .i64, .i .i64, .b], .i .i64, .b, .sl [.i .i64, .i .i64], .sl [.i .i64]] [.int .i64 (0), .int .i64 (0), .slice none 0 0, .int .i64 (0), .bool false, .slice none 0 0, .slice none 0 0])), [3, 1000000001], (some 3), none⟩])
 (.seq (.rg [o1 4 (.idx .nil),
   o1 5 (.load 1 [] 0 (.t 4) 1 false),
   o1 6 (.idx .nil),
   o4 1 [3] (.store 3 [] 0 (.t 6) (.t 5))])
 (.seq (.rg [o1 7 (.idx .nil),
   o1 8 (.load 1 [] 1 (.t 7) 2 false),
   o3 9 195 [.t 8],
   o1 10 (.idx .nil),
   o4 2 [3, 9] (.store 3 [] 1 (.t 10) (.t 9))])
 (.seq (.rg [o1 11 (.idx .nil),
   o1 12 (.load 1 [] 3 (.t 11) 4 false),
   o3 13 196 [.t 12],
   o1 14 (.idx .nil),
   o4 2 [3, 13] (.store 3 [] 3 (.t 14) (.t 13))])
 (.seq (.rg [o1 15 (.load 3 [] 0 .nil 7 true),
   ⟨false, [15], [], .det 2 (.store 2 [] 0 .nil (.t 15)), [2, 15, 15, 3], none, none⟩])
 .ret))))))
def s_ltoShard : Sig := ⟨[.rd true [.d, .d, .sl (.own none) [.d, .d, .d, .d], .d, .d, .sl (.own none) [.d, .d], .sl (.own none) [.d]]], (.one true [.d, .d, .sl (.own none) [.d, .d, .d, .d], .d, .d, .sl (.own none) [.d, .d], .sl (.own none) [.d]])⟩
noncomputable def E_ltoShard : TEnv := envOf [(195, p_ltoWeb), (196, p_ltoAnswer)]
noncomputable def f_ltoShard (n : Nat) : (Int × Int × List (Int × Int × Int × Bool) × Int × Bool × List (Int × Int) × List (Int)) → Option ((Int × Int × List (Int × Int × Int × Bool) × Int × Bool × List (Int × Int) × List (Int)) × Unit) := runFn n E_ltoShard c_ltoShard [[.i .i64, .i .i64, .sl [.i .i64, .i .i64, .i .i64, .b], .i .i64, .b, .sl [.i .i64, .i .i64], .sl [.i .i64]]] [.i .i64, .i .i64, .sl [.i .i64, .i .i64, .i .i64, .b], .i .i64, .b, .sl [.i .i64, .i .i64], .sl [.i .i64]] [] [2] .no
noncomputable def g_ltoShard := f_ltoShard BIG
noncomputable def p_ltoShard : TSp := ⟨s_ltoShard, [[.i .i64, .i .i64, .sl [.i .i64, .i .i64, .i .i64, .b], .i .i64, .b, .sl [.i .i64, .i .i64], .sl [.i .i64]]], [.i .i64, .i .i64, .sl [.i .i64, .i .i64, .i .i64, .b], .i .i64, .b, .sl [.i .i64, .i .i64], .sl [.i .i64]], [], Ou.j .no, g_ltoShard⟩
theorem k_ltoShard : chkW PG E_ltoShard 62 s_ltoShard (c_ltoShard.ht 16) .no = some (c_ltoShard.wc E_ltoShard, [2]) := by kernel_rfl
theorem ok_ltoShard : p_ltoShard.Ok PG 62 := mkOk (env_cons ok_ltoWeb (env_cons ok_ltoAnswer (env_nil PG))) k_ltoShard (by kernel_rfl)
theorem e_ltoShard (n : Nat) (a0 : Int × Int × List (Int × Int × Int × Bool) × Int × Bool × List (Int × Int) × List (Int)) : f_ltoShard n a0 =
  Option.bind (g_ltoWeb (a0.2.1, a0.2.2.1)) fun r0 =>
  Option.bind (g_ltoAnswer a0.2.2.2) fun r1 =>
  some ((a0.1, r0.1.1, r0.1.2, r1.1), ()) := by kernel_rfl
/- spec.GraphOf -/
def c_sGraphOf : TC :=
 (.seq (.rg [o1 1 (.a (.t 0)),
   ⟨false, [], [], .det 2 (.a (.c [.i .i64, .sl [.i .i64, .i .i64]] [.int .i64 (0), .slice none 0 0])), [2, 1000000001], (some 2), none⟩])
 (.seq (.rg [o1 5 (.idx .nil),
   o1 6 (.load 1 [] 0 (.t 5) 1 false),
   o1 7 (.build [.i .i64, .sl [.i .i64, .i .i64]] [(0, .t 6)]),
   ⟨false, [], [], .det 2 (.a (.c [.i .i64, .sl [.i .i64, .i .i64]] [.int .i64 (0), .slice none 0 0])), [3, 1000000001], (some 3), none⟩,
   o4 2 [3, 7] (.store 3 [] 0 .nil (.t 7))])
 (.seq (.join [⟨3, [.i .i64, .sl [.i .i64, .i .i64]], false⟩] 8589934360 none (.seq (.rg [o1 4 (.lit [.i .i64] [.int .i64 (0)])])
 (.block 0 (.loop [⟨3, [.i .i64, .sl [.i .i64, .i .i64]], false⟩, ⟨4, [.i .i64], false⟩] 8589934360
  (.seq (.seq (.rg [o1 8 (.copy 4),
    o1 9 (.idx .nil),
    o1 10 (.load 1 [] 1 (.t 9) 1 false),
    o1 11 (.len 10),
    o1 12 (.data (.bin .lss) [.t 8, .t 11])])
  (.cond (.t 12)
   .skip
   (.exit 0)))
  (.seq (.block 1 (.rg [o1 15 (.idx .nil),
    o1 16 (.load 3 [] 1 (.t 15) 1 true),
    o1 17 (.idx .nil),
    o1 18 (.load 1 [] 1 (.t 17) 1 false),
    o1 19 (.copy 4),
    o1 20 (.index 18 (.t 19)),
    o1 21 (.idx (.t 20)),
    o1 22 (.load 18 [(0, 4)] 0 (.t 21) 1 false),
    o1 23 (.idx .nil),
    o1 24 (.load 1 [] 1 (.t 23) 1 false),
    o1 25 (.copy 4),
    o1 26 (.index 24 (.t 25)),
    o1 27 (.idx (.t 26)),
    o1 28 (.load 24 [(0, 4)] 1 (.t 27) 1 false),
    o1 29 (.build [.i .i64, .i .i64] [(0, .t 22), (1, .t 28)]),
    o1 30 (.sli [.i .i64, .i .i64] [.t 29]),
    ⟨false, [16], [], .det 2 (.app (some 16) 30), [31, 16, 16, 3], (some 31), none⟩,
    o1 32 (.idx .nil),
    o4 2 [3, 31, 16] (.store 3 [] 1 (.t 32) (.t 31))]))
  (.rg [o1 13 (.copy 4),
    o1 14 (.data (.bin .add) [.t 13, .c (.int .i64 (1))]),
    o1 4 (.copy 14)])))))))
 (.seq (.rg [o1 33 (.load 3 [] 0 .nil 2 true),
   ⟨false, [33], [], .det 2 (.store 2 [] 0 .nil (.t 33)), [2, 33, 33, 3], none, none⟩])
 .ret))))
def s_sGraphOf : Sig := ⟨[.rd true [.d, .sl (.own none) [.d, .d, .d, .d]]], (.one true [.d, .sl (.own none) [.d, .d]])⟩
noncomputable def E_sGraphOf : TEnv := envOf []
noncomputable def f_sGraphOf (n : Nat) : (Int × List (Int × Int × Int × Bool)) → Option ((Int × List (Int × Int)) × Unit) := runFn n E_sGraphOf c_sGraphOf [[.i .i64, .sl [.i .i64, .i .i64, .i .i64, .b]]] [.i .i64, .sl [.i .i64, .i .i64]] [] [2] .no
noncomputable def g_sGraphOf := f_sGraphOf BIG
noncomputable def p_sGraphOf : TSp := ⟨s_sGraphOf, [[.i .i64, .sl [.i .i64, .i .i64, .i .i64, .b]]], [.i .i64, .sl [.i .i64, .i .i64]], [], Ou.j .no, g_sGraphOf⟩
theorem k_sGraphOf : chkW PG E_sGraphOf 194 s_sGraphOf (c_sGraphOf.ht 34) .no = some (c_sGraphOf.wc E_sGraphOf, [2]) := by kernel_rfl
theorem ok_sGraphOf : p_sGraphOf.Ok PG 194 := mkOk (env_nil PG) k_sGraphOf (by kernel_rfl)
theorem e_sGraphOf (n : Nat) (a0 : Int × List (Int × Int × Int × Bool)) : f_sGraphOf n a0 =
  Option.bind (loopT n (X := (Int × List (Int × Int)) × Int) (B := (Int × List (Int × Int))) (fun self1 x0 =>
    bif decide (x0.2 < (a0.2.length : Int)) then
     bnd a0.2.length x0.2 fun n2 =>
     Option.bind a0.2[n2]? fun y3 =>
     bnd a0.2.length x0.2 fun n4 =>
     Option.bind a0.2[n4]? fun y5 =>
     bif decide (x0.1.2.length + ([(y3.1, y5.2.1)]).length ≤ 4294967296) then
      self1 ((x0.1.1, x0.1.2 ++ ([(y3.1, y5.2.1)])), IntKind.wrap .i64 (x0.2 + (1 : Int)))
     else none
    else some x0.1) ((a0.1, []), (0 : Int)) : Option ((Int × List (Int × Int)))) fun x6 =>
  some (x6, ()) := by kernel_rfl
/- spec.Owned -/
def c_sOwned : TC :=
 (.seq (.rg [o1 1 (.a (.t 0)),
   o1 2 (.lit [.sl [.i .i64, .i .i64]] [.slice none 0 0])])
 (.seq (.rg [o1 3 (.sli [.i .i64, .i .i64] []),
   o1 4 (.idx .nil),
   o1 5 (.load 1 [] 1 (.t 4) 2 false),
   o3 6 194 [.t 5],
   ⟨false, [], [], .det 2 (.ext 6 1 1), [7, 6], (some 7), none⟩,
   ⟨false, [], [], .det 2 (.app (some 3) 7), [8, 3], (some 8), none⟩,
   ⟨false, [], [], .det 2 (.copy 8), [2, 8], (some 2), none⟩])
 .ret))
def s_sOwned : Sig := ⟨[.rd true [.d, .d, .sl (.own none) [.d, .d, .d, .d], .d, .d, .sl (.own none) [.d, .d], .sl (.own none) [.d]]], (.one false [.sl (.own none) [.d, .d]])⟩
noncomputable def E_sOwned : TEnv := envOf [(194, p_sGraphOf)]
noncomputable def f_sOwned (n : Nat) : (Int × Int × List (Int × Int × Int × Bool) × Int × Bool × List (Int × Int) × List (Int)) → Option ((List (Int × Int)) × Unit) := runFn n E_sOwned c_sOwned [[.i .i64, .i .i64, .sl [.i .i64, .i .i64, .i .i64, .b], .i .i64, .b, .sl [.i .i64, .i .i64], .sl [.i .i64]]] [.sl [.i .i64, .i .i64]] [] [2] .no
noncomputable def g_sOwned := f_sOwned BIG
noncomputable def p_sOwned : TSp := ⟨s_sOwned, [[.i .i64, .i .i64, .sl [.i .i64, .i .i64, .i .i64, .b], .i .i64, .b, .sl [.i .i64, .i .i64], .sl [.i .i64]]], [.sl [.i .i64, .i .i64]], [], Ou.j .no, g_sOwned⟩
theorem k_sOwned : chkW PG E_sOwned 61 s_sOwned (c_sOwned.ht 9) .no = some (c_sOwned.wc E_sOwned, [2]) := by kernel_rfl
theorem ok_sOwned : p_sOwned.Ok PG 61 := mkOk (env_cons ok_sGraphOf (env_nil PG)) k_sOwned (by kernel_rfl)
theorem e_sOwned (n : Nat) (a0 : Int × Int × List (Int × Int × Int × Bool) × Int × Bool × List (Int × Int) × List (Int)) : f_sOwned n a0 =
  Option.bind (g_sGraphOf (a0.2.1, a0.2.2.1)) fun r0 =>
  bif decide (0 + r0.1.2.length ≤ 4294967296) then
   some ([] ++ r0.1.2, ())
  else none := by kernel_rfl
/- impl.GraphOf -/
def c_iGraphOf : TC :=
 (.seq (.rg [o1 1 (.a (.t 0)),
   ⟨false, [], [], .det 2 (.a (.c [.i .i64, .sl [.i .i64, .i .i64]] [.int .i64 (0), .slice none 0 0])), [2, 1000000001], (some 2), none⟩])
 (.seq (.rg [o1 6 (.idx .nil),
   o1 7 (.load 1 [] 0 (.t 6) 1 false),
   o1 8 (.build [.i .i64, .sl [.i .i64, .i .i64]] [(0, .t 7)]),
   ⟨false, [], [], .det 2 (.a (.c [.i .i64, .sl [.i .i64, .i .i64]] [.int .i64 (0), .slice none 0 0])), [3, 1000000001], (some 3), none⟩,
   o4 2 [3, 8] (.store 3 [] 0 .nil (.t 8))])
 (.seq (.join [⟨3, [.i .i64, .sl [.i .i64, .i .i64]], false⟩] 134217256 none (.seq (.rg [o1 9 (.idx .nil),
   o1 10 (.load 1 [] 1 (.t 9) 1 false),
   o1 11 (.len 10),
   o1 12 (.lit [.i .i64] [.int .i64 (0)])])
 (.block 0 (.loop [⟨3, [.i .i64, .sl [.i .i64, .i .i64]], false⟩, ⟨12, [.i .i64], false⟩] 134213672
  (.seq (.rg [o1 13 (.data (.bin .lss) [.t 12, .t 11])])
  (.seq (.cond (.t 13)
   .skip
   (.exit 0))
  (.seq (.block 1 (.seq (.rg [o1 14 (.index 10 (.t 12)),
    o1 15 (.load 10 [(0, 4)] 0 (.t 14) 4 false),
    ⟨false, [], [], .det 2 (.a (.c [.i .i64, .i .i64, .i .i64, .b] [.int .i64 (0), .int .i64 (0), .int .i64 (0), .bool false])), [5, 1000000001], (some 5), none⟩,
    o4 1 [5] (.store 5 [] 0 .nil (.t 15))])
  (.rg [o1 16 (.idx .nil),
    o1 17 (.load 3 [] 1 (.t 16) 1 true),
    o1 18 (.idx .nil),
    o1 19 (.load 5 [] 0 (.t 18) 1 false),
    o1 20 (.idx .nil),
    o1 21 (.load 5 [] 1 (.t 20) 1 false),
    o1 22 (.build [.i .i64, .i .i64] [(0, .t 19), (1, .t 21)]),
    o1 23 (.sli [.i .i64, .i .i64] [.t 22]),
    ⟨false, [17], [], .det 2 (.app (some 17) 23), [24, 17, 17, 3], (some 24), none⟩,
    o1 25 (.idx .nil),
    o4 2 [3, 24, 17] (.store 3 [] 1 (.t 25) (.t 24))])))
  (.rg [o1 26 (.data (.bin .add) [.t 12, .c (.int .i64 (1))]),
    o1 12 (.copy 26)]))))))))
 (.seq (.rg [o1 27 (.load 3 [] 0 .nil 2 true),
   ⟨false, [27], [], .det 2 (.store 2 [] 0 .nil (.t 27)), [2, 27, 27, 3], none, none⟩])
 .ret))))
def s_iGraphOf : Sig := ⟨[.rd true [.d, .sl (.own none) [.d, .d, .d, .d]]], (.one true [.d, .sl (.own none) [.d, .d]])⟩
noncomputable def E_iGraphOf : TEnv := envOf []
noncomputable def f_iGraphOf (n : Nat) : (Int × List (Int × Int × Int × Bool)) → Option ((Int × List (Int × Int)) × Unit) := runFn n E_iGraphOf c_iGraphOf [[.i .i64, .sl [.i .i64, .i .i64, .i .i64, .b]]] [.i .i64, .sl [.i .i64, .i .i64]] [] [2] .no
noncomputable def g_iGraphOf := f_iGraphOf BIG
noncomputable def p_iGraphOf : TSp := ⟨s_iGraphOf, [[.i .i64, .sl [.i .i64, .i .i64, .i .i64, .b]]], [.i .i64, .sl [.i .i64, .i .i64]], [], Ou.j .no, g_iGraphOf⟩
theorem k_iGraphOf : chkW PG E_iGraphOf 131 s_iGraphOf (c_iGraphOf.ht 28) .no = some (c_iGraphOf.wc E_iGraphOf, [2]) := by kernel_rfl
theorem ok_iGraphOf : p_iGraphOf.Ok PG 131 := mkOk (env_nil PG) k_iGraphOf (by kernel_rfl)
theorem e_iGraphOf (n : Nat) (a0 : Int × List (Int × Int × Int × Bool)) : f_iGraphOf n a0 =
  Option.bind (loopT n (X := (Int × List (Int × Int)) × Int) (B := (Int × List (Int × Int))) (fun self1 x0 =>
    bif decide (x0.2 < (a0.2.length : Int)) then
     bnd a0.2.length x0.2 fun n2 =>
     Option.bind a0.2[n2]? fun y3 =>
     bif decide (x0.1.2.length + ([(y3.1, y3.2.1)]).length ≤ 4294967296) then
      self1 ((x0.1.1, x0.1.2 ++ ([(y3.1, y3.2.1)])), IntKind.wrap .i64 (x0.2 + (1 : Int)))
     else none
    else some x0.1) ((a0.1, []), (0 : Int)) : Option ((Int × List (Int × Int)))) fun x4 =>
  some (x4, ()) := by kernel_rfl
/- impl.Owned -/
def c_iOwned : TC :=
 (.seq (.rg [o1 1 (.a (.t 0)),
   o1 2 (.lit [.sl [.i .i64, .i .i64]] [.slice none 0 0])])
 (.seq (.rg [o1 3 (.idx .nil),
   o1 4 (.load 1 [] 1 (.t 3) 2 false),
   o3 5 131 [.t 4],
   ⟨false, [], [], .det 2 (.ext 5 1 1), [6, 5], (some 6), none⟩,
   ⟨false, [], [], .det 2 (.copy 6), [2, 6], (some 2), none⟩])
 .ret))
def s_iOwned : Sig := ⟨[.rd true [.d, .d, .sl (.own none) [.d, .d, .d, .d], .d, .d, .sl (.own none) [.d, .d], .sl (.own none) [.d]]], (.one false [.sl (.own none) [.d, .d]])⟩
noncomputable def E_iOwned : TEnv := envOf [(131, p_iGraphOf)]
noncomputable def f_iOwned (n : Nat) : (Int × Int × List (Int × Int × Int × Bool) × Int × Bool × List (Int × Int) × List (Int)) → Option ((List (Int × Int)) × Unit) := runFn n E_iOwned c_iOwned [[.i .i64, .i .i64, .sl [.i .i64, .i .i64, .i .i64, .b], .i .i64, .b, .sl [.i .i64, .i .i64], .sl [.i .i64]]] [.sl [.i .i64, .i .i64]] [] [2] .no
noncomputable def g_iOwned := f_iOwned BIG
noncomputable def p_iOwned : TSp := ⟨s_iOwned, [[.i .i64, .i .i64, .sl [.i .i64, .i .i64, .i .i64, .b], .i .i64, .b, .sl [.i .i64, .i .i64], .sl [.i .i64]]], [.sl [.i .i64, .i .i64]], [], Ou.j .no, g_iOwned⟩
theorem k_iOwned : chkW PG E_iOwned 32 s_iOwned (c_iOwned.ht 7) .no = some (c_iOwned.wc E_iOwned, [2]) := by kernel_rfl
theorem ok_iOwned : p_iOwned.Ok PG 32 := mkOk (env_cons ok_iGraphOf (env_nil PG)) k_iOwned (by kernel_rfl)
theorem e_iOwned (n : Nat) (a0 : Int × Int × List (Int × Int × Int × Bool) × Int × Bool × List (Int × Int) × List (Int)) : f_iOwned n a0 =
  Option.bind (g_iGraphOf (a0.2.1, a0.2.2.1)) fun r0 =>
  some (r0.1.2, ()) := by kernel_rfl
/- laws.eqEdge -/
def c_leqEdge : TC :=
 (.seq (.rg [o1 2 (.a (.t 0)),
   o1 3 (.a (.t 1)),
   o1 4 (.lit [.b] [.bool false])])
 (.seq (.seq (.rg [o1 5 (.idx .nil),
   o1 6 (.load 2 [] 0 (.t 5) 1 false),
   o1 7 (.idx .nil),
   o1 8 (.load 3 [] 0 (.t 7) 1 false),
   o1 9 (.data (.bin .neq) [.t 6, .t 8])])
 (.cond (.t 9)
  (.seq (.rg [o1 4 (.lit [.b] [.bool false])])
  .ret)
  .skip))
 (.seq (.seq (.rg [o1 10 (.idx .nil),
   o1 11 (.load 2 [] 1 (.t 10) 1 false),
   o1 12 (.idx .nil),
   o1 13 (.load 3 [] 1 (.t 12) 1 false),
   o1 14 (.data (.bin .neq) [.t 11, .t 13])])
 (.cond (.t 14)
  (.seq (.rg [o1 4 (.lit [.b] [.bool false])])
  .ret)
  .skip))
 (.seq (.rg [o1 4 (.lit [.b] [.bool true])])
 .ret))))
def s_leqEdge : Sig := ⟨[.rd true [.d, .d], .rd true [.d, .d]], (.one false [.d])⟩
noncomputable def E_leqEdge : TEnv := envOf []
noncomputable def f_leqEdge (n : Nat) : (Int × Int) × (Int × Int) → Option ((Bool) × Unit) := runFn n E_leqEdge c_leqEdge [[.i .i64, .i .i64], [.i .i64, .i .i64]] [.b] [] [4] .no
noncomputable def g_leqEdge := f_leqEdge BIG
noncomputable def p_leqEdge : TSp := ⟨s_leqEdge, [[.i .i64, .i .i64], [.i .i64, .i .i64]], [.b], [], Ou.j .no, g_leqEdge⟩
theorem k_leqEdge : chkW PG E_leqEdge 174 s_leqEdge (c_leqEdge.ht 15) .no = some (c_leqEdge.wc E_leqEdge, [4]) := by kernel_rfl
theorem ok_leqEdge : p_leqEdge.Ok PG 174 := mkOk (env_nil PG) k_leqEdge (by kernel_rfl)
theorem e_leqEdge (n : Nat) (a0 : Int × Int) (a1 : Int × Int) : f_leqEdge n (a0, a1) =
  bif !decide (a0.1 = a1.1) then
   some (false, ())
  else bif !decide (a0.2 = a1.2) then
   some (false, ())
  else some (true, ()) := by kernel_rfl
/- laws.eqEdgeS -/
def c_leqEdgeS : TC :=
 (.seq (.rg [o1 4 (.lit [.b] [.bool false])])
 (.seq (.seq (.rg [o1 6 (.copy 0),
   o1 7 (.len 6),
   o1 8 (.copy 1),
   o1 9 (.len 8),
   o1 10 (.data (.bin .neq) [.t 7, .t 9])])
 (.cond (.t 10)
  (.seq (.rg [o1 4 (.lit [.b] [.bool false])])
  .ret)
  .skip))
 (.seq (.join [] 134215728 (some [⟨4, [.b], false⟩]) (.seq (.rg [o1 5 (.lit [.i .i64] [.int .i64 (0)])])
 (.block 0 (.loop [⟨5, [.i .i64], false⟩] 134215728
  (.seq (.seq (.rg [o1 11 (.copy 5),
    o1 12 (.copy 0),
    o1 13 (.len 12),
    o1 14 (.data (.bin .lss) [.t 11, .t 13])])
  (.cond (.t 14)
   .skip
   (.exit 0)))
  (.seq (.block 1 (.seq (.rg [o1 17 (.copy 0),
    o1 18 (.copy 5),
    o1 19 (.index 17 (.t 18)),
    o1 20 (.load 17 [(0, 2)] 0 (.t 19) 2 false),
    o1 21 (.copy 1),
    o1 22 (.copy 5),
    o1 23 (.index 21 (.t 22)),
    o1 24 (.load 21 [(0, 2)] 0 (.t 23) 2 false),
    o3 25 174 [.t 20, .t 24],
    o1 26 (.data .not [.t 25])])
  (.cond (.t 26)
   (.seq (.rg [o1 4 (.lit [.b] [.bool false])])
   .ret)
   .skip)))
  (.rg [o1 15 (.copy 5),
    o1 16 (.data (.bin .add) [.t 15, .c (.int .i64 (1))]),
    o1 5 (.copy 16)])))))))
 (.seq (.rg [o1 4 (.lit [.b] [.bool true])])
 .ret))))
def s_leqEdgeS : Sig := ⟨[.rd false [.sl (.own none) [.d, .d]], .rd false [.sl (.own none) [.d, .d]]], (.one false [.d])⟩
noncomputable def E_leqEdgeS : TEnv := envOf [(174, p_leqEdge)]
noncomputable def f_leqEdgeS (n : Nat) : (List (Int × Int)) × (List (Int × Int)) → Option ((Bool) × Unit) := runFn n E_leqEdgeS c_leqEdgeS [[.sl [.i .i64, .i .i64]], [.sl [.i .i64, .i .i64]]] [.b] [] [4] .no
noncomputable def g_leqEdgeS := f_leqEdgeS BIG
noncomputable def p_leqEdgeS : TSp := ⟨s_leqEdgeS, [[.sl [.i .i64, .i .i64]], [.sl [.i .i64, .i .i64]]], [.b], [], Ou.j .no, g_leqEdgeS⟩
theorem k_leqEdgeS : chkW PG E_leqEdgeS 41 s_leqEdgeS (c_leqEdgeS.ht 27) .no = some (c_leqEdgeS.wc E_leqEdgeS, [4]) := by kernel_rfl
theorem ok_leqEdgeS : p_leqEdgeS.Ok PG 41 := mkOk (env_cons ok_leqEdge (env_nil PG)) k_leqEdgeS (by kernel_rfl)
theorem e_leqEdgeS (n : Nat) (a0 : List (Int × Int)) (a1 : List (Int × Int)) : f_leqEdgeS n (a0, a1) =
  bif !decide ((a0.length : Int) = (a1.length : Int)) then
   some (false, ())
  else Option.bind (loopT n (X := Int) (B := (Unit) ⊕ (Bool)) (fun self1 x0 =>
    bif decide (x0 < (a0.length : Int)) then
     bnd a0.length x0 fun n2 =>
     Option.bind a0[n2]? fun y3 =>
     bnd a1.length x0 fun n4 =>
     Option.bind a1[n4]? fun y5 =>
     Option.bind (g_leqEdge (y3, y5)) fun r6 =>
     bif !r6.1 then
      some (Sum.inr false)
     else self1 (IntKind.wrap .i64 (x0 + (1 : Int)))
    else some (Sum.inl ())) (0 : Int) : Option ((Unit) ⊕ (Bool))) fun y => match y with
  | .inl x7 =>
   some (true, ())
  | .inr x7 =>
   some (x7, ()) := by kernel_rfl
/- laws.eqLedge -/
def c_leqLedge : TC :=
 (.seq (.rg [o1 2 (.a (.t 0)),
   o1 3 (.a (.t 1)),
   o1 4 (.lit [.b] [.bool false])])
 (.seq (.seq (.rg [o1 5 (.idx .nil),
   o1 6 (.load 2 [] 0 (.t 5) 1 false),
   o1 7 (.idx .nil),
   o1 8 (.load 3 [] 0 (.t 7) 1 false),
   o1 9 (.data (.bin .neq) [.t 6, .t 8])])
 (.cond (.t 9)
  (.seq (.rg [o1 4 (.lit [.b] [.bool false])])
  .ret)
  .skip))
 (.seq (.seq (.rg [o1 10 (.idx .nil),
   o1 11 (.load 2 [] 1 (.t 10) 1 false),
   o1 12 (.idx .nil),
   o1 13 (.load 3 [] 1 (.t 12) 1 false),
   o1 14 (.data (.bin .neq) [.t 11, .t 13])])
 (.cond (.t 14)
  (.seq (.rg [o1 4 (.lit [.b] [.bool false])])
  .ret)
  .skip))
 (.seq (.seq (.rg [o1 15 (.idx .nil),
   o1 16 (.load 2 [] 2 (.t 15) 1 false),
   o1 17 (.idx .nil),
   o1 18 (.load 3 [] 2 (.t 17) 1 false),
   o1 19 (.data (.bin .neq) [.t 16, .t 18])])
 (.cond (.t 19)
  (.seq (.rg [o1 4 (.lit [.b] [.bool false])])
  .ret)
  .skip))
 (.seq (.seq (.rg [o1 20 (.idx .nil),
   o1 21 (.load 2 [] 3 (.t 20) 1 false),
   o1 22 (.idx .nil),
   o1 23 (.load 3 [] 3 (.t 22) 1 false),
   o1 24 (.data (.beq true) [.t 21, .t 23])])
 (.cond (.t 24)
  (.seq (.rg [o1 4 (.lit [.b] [.bool false])])
  .ret)
  .skip))
 (.seq (.rg [o1 4 (.lit [.b] [.bool true])])
 .ret))))))
def s_leqLedge : Sig := ⟨[.rd true [.d, .d, .d, .d], .rd true [.d, .d, .d, .d]], (.one false [.d])⟩
noncomputable def E_leqLedge : TEnv := envOf []
noncomputable def f_leqLedge (n : Nat) : (Int × Int × Int × Bool) × (Int × Int × Int × Bool) → Option ((Bool) × Unit) := runFn n E_leqLedge c_leqLedge [[.i .i64, .i .i64, .i .i64, .b], [.i .i64, .i .i64, .i .i64, .b]] [.b] [] [4] .no
noncomputable def g_leqLedge := f_leqLedge BIG
noncomputable def p_leqLedge : TSp := ⟨s_leqLedge, [[.i .i64, .i .i64, .i .i64, .b], [.i .i64, .i .i64, .i .i64, .b]], [.b], [], Ou.j .no, g_leqLedge⟩
theorem k_leqLedge : chkW PG E_leqLedge 347 s_leqLedge (c_leqLedge.ht 25) .no = some (c_leqLedge.wc E_leqLedge, [4]) := by kernel_rfl
theorem ok_leqLedge : p_leqLedge.Ok PG 347 := mkOk (env_nil PG) k_leqLedge (by kernel_rfl)
theorem e_leqLedge (n : Nat) (a0 : Int × Int × Int × Bool) (a1 : Int × Int × Int × Bool) : f_leqLedge n (a0, a1) =
  bif !decide (a0.1 = a1.1) then
   some (false, ())
  else bif !decide (a0.2.1 = a1.2.1) then
   some (false, ())
  else bif !decide (a0.2.2.1 = a1.2.2.1) then
   some (false, ())
  else bif !(a0.2.2.2 == a1.2.2.2) then
   some (false, ())
  else some (true, ()) := by kernel_rfl
/- laws.eqLedgeS -/
def c_leqLedgeS : TC :=
 (.seq (.rg [o1 4 (.lit [.b] [.bool false])])
 (.seq (.seq (.rg [o1 6 (.copy 0),
   o1 7 (.len 6),
   o1 8 (.copy 1),
   o1 9 (.len 8),
   o1 10 (.data (.bin .neq) [.t 7, .t 9])])
 (.cond (.t 10)
  (.seq (.rg [o1 4 (.lit [.b] [.bool false])])
  .ret)
  .skip))
 (.seq (.join [] 134215728 (some [⟨4, [.b], false⟩]) (.seq (.rg [o1 5 (.lit [.i .i64] [.int .i64 (0)])])
 (.block 0 (.loop [⟨5, [.i .i64], false⟩] 134215728
  (.seq (.seq (.rg [o1 11 (.copy 5),
    o1 12 (.copy 0),
    o1 13 (.len 12),
    o1 14 (.data (.bin .lss) [.t 11, .t 13])])
  (.cond (.t 14)
   .skip
   (.exit 0)))
  (.seq (.block 1 (.seq (.rg [o1 17 (.copy 0),
    o1 18 (.copy 5),
    o1 19 (.index 17 (.t 18)),
    o1 20 (.load 17 [(0, 4)] 0 (.t 19) 4 false),
    o1 21 (.copy 1),
    o1 22 (.copy 5),
    o1 23 (.index 21 (.t 22)),
    o1 24 (.load 21 [(0, 4)] 0 (.t 23) 4 false),
    o3 25 347 [.t 20, .t 24],
    o1 26 (.data .not [.t 25])])
  (.cond (.t 26)
   (.seq (.rg [o1 4 (.lit [.b] [.bool false])])
   .ret)
   .skip)))
  (.rg [o1 15 (.copy 5),
    o1 16 (.data (.bin .add) [.t 15, .c (.int .i64 (1))]),
    o1 5 (.copy 16)])))))))
 (.seq (.rg [o1 4 (.lit [.b] [.bool true])])
 .ret))))
def s_leqLedgeS : Sig := ⟨[.rd false [.sl (.own none) [.d, .d, .d, .d]], .rd false [.sl (.own none) [.d, .d, .d, .d]]], (.one false [.d])⟩
noncomputable def E_leqLedgeS : TEnv := envOf [(347, p_leqLedge)]
noncomputable def f_leqLedgeS (n : Nat) : (List (Int × Int × Int × Bool)) × (List (Int × Int × Int × Bool)) → Option ((Bool) × Unit) := runFn n E_leqLedgeS c_leqLedgeS [[.sl [.i .i64, .i .i64, .i .i64, .b]], [.sl [.i .i64, .i .i64, .i .i64, .b]]] [.b] [] [4] .no
noncomputable def g_leqLedgeS := f_leqLedgeS BIG
noncomputable def p_leqLedgeS : TSp := ⟨s_leqLedgeS, [[.sl [.i .i64, .i .i64, .i .i64, .b]], [.sl [.i .i64, .i .i64, .i .i64, .b]]], [.b], [], Ou.j .no, g_leqLedgeS⟩
theorem k_leqLedgeS : chkW PG E_leqLedgeS 297 s_leqLedgeS (c_leqLedgeS.ht 27) .no = some (c_leqLedgeS.wc E_leqLedgeS, [4]) := by kernel_rfl
theorem ok_leqLedgeS : p_leqLedgeS.Ok PG 297 := mkOk (env_cons ok_leqLedge (env_nil PG)) k_leqLedgeS (by kernel_rfl)
theorem e_leqLedgeS (n : Nat) (a0 : List (Int × Int × Int × Bool)) (a1 : List (Int × Int × Int × Bool)) : f_leqLedgeS n (a0, a1) =
  bif !decide ((a0.length : Int) = (a1.length : Int)) then
   some (false, ())
  else Option.bind (loopT n (X := Int) (B := (Unit) ⊕ (Bool)) (fun self1 x0 =>
    bif decide (x0 < (a0.length : Int)) then
     bnd a0.length x0 fun n2 =>
     Option.bind a0[n2]? fun y3 =>
     bnd a1.length x0 fun n4 =>
     Option.bind a1[n4]? fun y5 =>
     Option.bind (g_leqLedge (y3, y5)) fun r6 =>
     bif !r6.1 then
      some (Sum.inr false)
     else self1 (IntKind.wrap .i64 (x0 + (1 : Int)))
    else some (Sum.inl ())) (0 : Int) : Option ((Unit) ⊕ (Bool))) fun y => match y with
  | .inl x7 =>
   some (true, ())
  | .inr x7 =>
   some (x7, ()) := by kernel_rfl
/- laws.eqWeb -/
def c_leqWeb : TC :=
 (.seq (.rg [o1 2 (.a (.t 0)),
   o1 3 (.a (.t 1)),
   o1 4 (.lit [.b] [.bool false])])
 (.seq (.seq (.rg [o1 5 (.idx .nil),
   o1 6 (.load 2 [] 0 (.t 5) 1 false),
   o1 7 (.idx .nil),
   o1 8 (.load 3 [] 0 (.t 7) 1 false),
   o1 9 (.data (.bin .neq) [.t 6, .t 8])])
 (.cond (.t 9)
  (.seq (.rg [o1 4 (.lit [.b] [.bool false])])
  .ret)
  .skip))
 (.seq (.seq (.rg [o1 10 (.idx .nil),
   o1 11 (.load 2 [] 1 (.t 10) 1 false),
   o1 12 (.idx .nil),
   o1 13 (.load 3 [] 1 (.t 12) 1 false),
   o3 14 297 [.t 11, .t 13],
   o1 15 (.data .not [.t 14])])
 (.cond (.t 15)
  (.seq (.rg [o1 4 (.lit [.b] [.bool false])])
  .ret)
  .skip))
 (.seq (.rg [o1 4 (.lit [.b] [.bool true])])
 .ret))))
def s_leqWeb : Sig := ⟨[.rd true [.d, .sl (.own none) [.d, .d, .d, .d]], .rd true [.d, .sl (.own none) [.d, .d, .d, .d]]], (.one false [.d])⟩
noncomputable def E_leqWeb : TEnv := envOf [(297, p_leqLedgeS)]
noncomputable def f_leqWeb (n : Nat) : (Int × List (Int × Int × Int × Bool)) × (Int × List (Int × Int × Int × Bool)) → Option ((Bool) × Unit) := runFn n E_leqWeb c_leqWeb [[.i .i64, .sl [.i .i64, .i .i64, .i .i64, .b]], [.i .i64, .sl [.i .i64, .i .i64, .i .i64, .b]]] [.b] [] [4] .no
noncomputable def g_leqWeb := f_leqWeb BIG
noncomputable def p_leqWeb : TSp := ⟨s_leqWeb, [[.i .i64, .sl [.i .i64, .i .i64, .i .i64, .b]], [.i .i64, .sl [.i .i64, .i .i64, .i .i64, .b]]], [.b], [], Ou.j .no, g_leqWeb⟩
theorem k_leqWeb : chkW PG E_leqWeb 181 s_leqWeb (c_leqWeb.ht 16) .no = some (c_leqWeb.wc E_leqWeb, [4]) := by kernel_rfl
theorem ok_leqWeb : p_leqWeb.Ok PG 181 := mkOk (env_cons ok_leqLedgeS (env_nil PG)) k_leqWeb (by kernel_rfl)
theorem e_leqWeb (n : Nat) (a0 : Int × List (Int × Int × Int × Bool)) (a1 : Int × List (Int × Int × Int × Bool)) : f_leqWeb n (a0, a1) =
  bif !decide (a0.1 = a1.1) then
   some (false, ())
  else Option.bind (g_leqLedgeS (a0.2, a1.2)) fun r0 =>
  bif !r0.1 then
   some (false, ())
  else some (true, ()) := by kernel_rfl
/- laws.eqIntS -/
def c_leqIntS : TC :=
 (.seq (.rg [o1 4 (.lit [.b] [.bool false])])
 (.seq (.seq (.rg [o1 6 (.copy 0),
   o1 7 (.len 6),
   o1 8 (.copy 1),
   o1 9 (.len 8),
   o1 10 (.data (.bin .neq) [.t 7, .t 9])])
 (.cond (.t 10)
  (.seq (.rg [o1 4 (.lit [.b] [.bool false])])
  .ret)
  .skip))
 (.seq (.join [] 67106864 (some [⟨4, [.b], false⟩]) (.seq (.rg [o1 5 (.lit [.i .i64] [.int .i64 (0)])])
 (.block 0 (.loop [⟨5, [.i .i64], false⟩] 67106864
  (.seq (.seq (.rg [o1 11 (.copy 5),
    o1 12 (.copy 0),
    o1 13 (.len 12),
    o1 14 (.data (.bin .lss) [.t 11, .t 13])])
  (.cond (.t 14)
   .skip
   (.exit 0)))
  (.seq (.block 1 (.seq (.rg [o1 17 (.copy 0),
    o1 18 (.copy 5),
    o1 19 (.index 17 (.t 18)),
    o1 20 (.load 17 [(0, 1)] 0 (.t 19) 1 false),
    o1 21 (.copy 1),
    o1 22 (.copy 5),
    o1 23 (.index 21 (.t 22)),
    o1 24 (.load 21 [(0, 1)] 0 (.t 23) 1 false),
    o1 25 (.data (.bin .neq) [.t 20, .t 24])])
  (.cond (.t 25)
   (.seq (.rg [o1 4 (.lit [.b] [.bool false])])
   .ret)
   .skip)))
  (.rg [o1 15 (.copy 5),
    o1 16 (.data (.bin .add) [.t 15, .c (.int .i64 (1))]),
    o1 5 (.copy 16)])))))))
 (.seq (.rg [o1 4 (.lit [.b] [.bool true])])
 .ret))))
def s_leqIntS : Sig := ⟨[.rd false [.sl (.own none) [.d]], .rd false [.sl (.own none) [.d]]], (.one false [.d])⟩
noncomputable def E_leqIntS : TEnv := envOf []
noncomputable def f_leqIntS (n : Nat) : List (Int) × List (Int) → Option ((Bool) × Unit) := runFn n E_leqIntS c_leqIntS [[.sl [.i .i64]], [.sl [.i .i64]]] [.b] [] [4] .no
noncomputable def g_leqIntS := f_leqIntS BIG
noncomputable def p_leqIntS : TSp := ⟨s_leqIntS, [[.sl [.i .i64]], [.sl [.i .i64]]], [.b], [], Ou.j .no, g_leqIntS⟩
theorem k_leqIntS : chkW PG E_leqIntS 39 s_leqIntS (c_leqIntS.ht 26) .no = some (c_leqIntS.wc E_leqIntS, [4]) := by kernel_rfl
theorem ok_leqIntS : p_leqIntS.Ok PG 39 := mkOk (env_nil PG) k_leqIntS (by kernel_rfl)
theorem e_leqIntS (n : Nat) (a0 : List (Int)) (a1 : List (Int)) : f_leqIntS n (a0, a1) =
  bif !decide ((a0.length : Int) = (a1.length : Int)) then
   some (false, ())
  else Option.bind (loopT n (X := Int) (B := (Unit) ⊕ (Bool)) (fun self1 x0 =>
    bif decide (x0 < (a0.length : Int)) then
     bnd a0.length x0 fun n2 =>
     Option.bind a0[n2]? fun y3 =>
     bnd a1.length x0 fun n4 =>
     Option.bind a1[n4]? fun y5 =>
     bif !decide (y3 = y5) then
      some (Sum.inr false)
     else self1 (IntKind.wrap .i64 (x0 + (1 : Int)))
    else some (Sum.inl ())) (0 : Int) : Option ((Unit) ⊕ (Bool))) fun y => match y with
  | .inl x6 =>
   some (true, ())
  | .inr x6 =>
   some (x6, ()) := by kernel_rfl
/- laws.eqAnswer -/
def c_leqAnswer : TC :=
 (.seq (.rg [o1 2 (.a (.t 0)),
   o1 3 (.a (.t 1)),
   o1 4 (.lit [.b] [.bool false])])
 (.seq (.seq (.rg [o1 5 (.idx .nil),
   o1 6 (.load 2 [] 0 (.t 5) 1 false),
   o1 7 (.idx .nil),
   o1 8 (.load 3 [] 0 (.t 7) 1 false),
   o1 9 (.data (.bin .neq) [.t 6, .t 8])])
 (.cond (.t 9)
  (.seq (.rg [o1 4 (.lit [.b] [.bool false])])
  .ret)
  .skip))
 (.seq (.seq (.rg [o1 10 (.idx .nil),
   o1 11 (.load 2 [] 1 (.t 10) 1 false),
   o1 12 (.idx .nil),
   o1 13 (.load 3 [] 1 (.t 12) 1 false),
   o1 14 (.data (.beq true) [.t 11, .t 13])])
 (.cond (.t 14)
  (.seq (.rg [o1 4 (.lit [.b] [.bool false])])
  .ret)
  .skip))
 (.seq (.seq (.rg [o1 15 (.idx .nil),
   o1 16 (.load 2 [] 2 (.t 15) 1 false),
   o1 17 (.idx .nil),
   o1 18 (.load 3 [] 2 (.t 17) 1 false),
   o3 19 41 [.t 16, .t 18],
   o1 20 (.data .not [.t 19])])
 (.cond (.t 20)
  (.seq (.rg [o1 4 (.lit [.b] [.bool false])])
  .ret)
  .skip))
 (.seq (.seq (.rg [o1 21 (.idx .nil),
   o1 22 (.load 2 [] 3 (.t 21) 1 false),
   o1 23 (.idx .nil),
   o1 24 (.load 3 [] 3 (.t 23) 1 false),
   o3 25 39 [.t 22, .t 24],
   o1 26 (.data .not [.t 25])])
 (.cond (.t 26)
  (.seq (.rg [o1 4 (.lit [.b] [.bool false])])
  .ret)
  .skip))
 (.seq (.rg [o1 4 (.lit [.b] [.bool true])])
 .ret))))))
def s_leqAnswer : Sig := ⟨[.rd true [.d, .d, .sl (.own none) [.d, .d], .sl (.own none) [.d]], .rd true [.d, .d, .sl (.own none) [.d, .d], .sl (.own none) [.d]]], (.one false [.d])⟩
noncomputable def E_leqAnswer : TEnv := envOf [(41, p_leqEdgeS), (39, p_leqIntS)]
noncomputable def f_leqAnswer (n : Nat) : (Int × Bool × List (Int × Int) × List (Int)) × (Int × Bool × List (Int × Int) × List (Int)) → Option ((Bool) × Unit) := runFn n E_leqAnswer c_leqAnswer [[.i .i64, .b, .sl [.i .i64, .i .i64], .sl [.i .i64]], [.i .i64, .b, .sl [.i .i64, .i .i64], .sl [.i .i64]]] [.b] [] [4] .no
noncomputable def g_leqAnswer := f_leqAnswer BIG
noncomputable def p_leqAnswer : TSp := ⟨s_leqAnswer, [[.i .i64, .b, .sl [.i .i64, .i .i64], .sl [.i .i64]], [.i .i64, .b, .sl [.i .i64, .i .i64], .sl [.i .i64]]], [.b], [], Ou.j .no, g_leqAnswer⟩
theorem k_leqAnswer : chkW PG E_leqAnswer 73 s_leqAnswer (c_leqAnswer.ht 27) .no = some (c_leqAnswer.wc E_leqAnswer, [4]) := by kernel_rfl
theorem ok_leqAnswer : p_leqAnswer.Ok PG 73 := mkOk (env_cons ok_leqEdgeS (env_cons ok_leqIntS (env_nil PG))) k_leqAnswer (by kernel_rfl)
theorem e_leqAnswer (n : Nat) (a0 : Int × Bool × List (Int × Int) × List (Int)) (a1 : Int × Bool × List (Int × Int) × List (Int)) : f_leqAnswer n (a0, a1) =
  bif !decide (a0.1 = a1.1) then
   some (false, ())
  else bif !(a0.2.1 == a1.2.1) then
   some (false, ())
  else Option.bind (g_leqEdgeS (a0.2.2.1, a1.2.2.1)) fun r0 =>
  bif !r0.1 then
   some (false, ())
  else Option.bind (g_leqIntS (a0.2.2.2, a1.2.2.2)) fun r1 =>
  bif !r1.1 then
   some (false, ())
  else some (true, ()) := by kernel_rfl
/- laws.eqShard -/
def c_leqShard : TC :=
 (.seq (.rg [o1 2 (.a (.t 0)),
   o1 3 (.a (.t 1)),
   o1 4 (.lit [.b] [.bool false])])
 (.seq (.seq (.rg [o1 5 (.idx .nil),
   o1 6 (.load 2 [] 0 (.t 5) 1 false),
   o1 7 (.idx .nil),
   o1 8 (.load 3 [] 0 (.t 7) 1 false),
   o1 9 (.data (.bin .neq) [.t 6, .t 8])])
 (.cond (.t 9)
  (.seq (.rg [o1 4 (.lit [.b] [.bool false])])
  .ret)
  .skip))
 (.seq (.seq (.rg [o1 10 (.idx .nil),
   o1 11 (.load 2 [] 1 (.t 10) 2 false),
   o1 12 (.idx .nil),
   o1 13 (.load 3 [] 1 (.t 12) 2 false),
   o3 14 181 [.t 11, .t 13],
   o1 15 (.data .not [.t 14])])
 (.cond (.t 15)
  (.seq (.rg [o1 4 (.lit [.b] [.bool false])])
  .ret)
  .skip))
 (.seq (.seq (.rg [o1 16 (.idx .nil),
   o1 17 (.load 2 [] 3 (.t 16) 4 false),
   o1 18 (.idx .nil),
   o1 19 (.load 3 [] 3 (.t 18) 4 false),
   o3 20 73 [.t 17, .t 19],
   o1 21 (.data .not [.t 20])])
 (.cond (.t 21)
  (.seq (.rg [o1 4 (.lit [.b] [.bool false])])
  .ret)
  .skip))
 (.seq (.rg [o1 4 (.lit [.b] [.bool true])])
 .ret)))))
def s_leqShard : Sig := ⟨[.rd true [.d, .d, .sl (.own none) [.d, .d, .d, .d], .d, .d, .sl (.own none) [.d, .d], .sl (.own none) [.d]], .rd true [.d, .d, .sl (.own none) [.d, .d, .d, .d], .d, .d, .sl (.own none) [.d, .d], .sl (.own none) [.d]]], (.one false [.d])⟩
noncomputable def E_leqShard : TEnv := envOf [(181, p_leqWeb), (73, p_leqAnswer)]
noncomputable def f_leqShard (n : Nat) : (Int × Int × List (Int × Int × Int × Bool) × Int × Bool × List (Int × Int) × List (Int)) × (Int × Int × List (Int × Int × Int × Bool) × Int × Bool × List (Int × Int) × List (Int)) → Option ((Bool) × Unit) := runFn n E_leqShard c_leqShard [[.i .i64, .i .i64, .sl [.i .i64, .i .i64, .i .i64, .b], .i .i64, .b, .sl [.i .i64, .i .i64], .sl [.i .i64]], [.i .i64, .i .i64, .sl [.i .i64, .i .i64, .i .i64, .b], .i .i64, .b, .sl [.i .i64, .i .i64], .sl [.i .i64]]] [.b] [] [4] .no
noncomputable def g_leqShard := f_leqShard BIG
noncomputable def p_leqShard : TSp := ⟨s_leqShard, [[.i .i64, .i .i64, .sl [.i .i64, .i .i64, .i .i64, .b], .i .i64, .b, .sl [.i .i64, .i .i64], .sl [.i .i64]], [.i .i64, .i .i64, .sl [.i .i64, .i .i64, .i .i64, .b], .i .i64, .b, .sl [.i .i64, .i .i64], .sl [.i .i64]]], [.b], [], Ou.j .no, g_leqShard⟩
theorem k_leqShard : chkW PG E_leqShard 52 s_leqShard (c_leqShard.ht 22) .no = some (c_leqShard.wc E_leqShard, [4]) := by kernel_rfl
theorem ok_leqShard : p_leqShard.Ok PG 52 := mkOk (env_cons ok_leqWeb (env_cons ok_leqAnswer (env_nil PG))) k_leqShard (by kernel_rfl)
theorem e_leqShard (n : Nat) (a0 : Int × Int × List (Int × Int × Int × Bool) × Int × Bool × List (Int × Int) × List (Int)) (a1 : Int × Int × List (Int × Int × Int × Bool) × Int × Bool × List (Int × Int) × List (Int)) : f_leqShard n (a0, a1) =
  bif !decide (a0.1 = a1.1) then
   some (false, ())
  else Option.bind (g_leqWeb ((a0.2.1, a0.2.2.1), (a1.2.1, a1.2.2.1))) fun r0 =>
  bif !r0.1 then
   some (false, ())
  else Option.bind (g_leqAnswer (a0.2.2.2, a1.2.2.2)) fun r1 =>
  bif !r1.1 then
   some (false, ())
  else some (true, ()) := by kernel_rfl
/- laws.markLedgeS -/
def c_lmarkLedgeS : TC :=
 (.seq (.rg [o1 4 (.lit [.i .i64] [.int .i64 (0)])])
 (.seq (.join [⟨0, [.sl [.i .i64, .i .i64, .i .i64, .b]], false⟩, ⟨1, [.i .i64], false⟩] 4398046511075 none (.seq (.rg [o1 5 (.lit [.i .i64] [.int .i64 (0)])])
 (.block 0 (.loop [⟨0, [.sl [.i .i64, .i .i64, .i .i64, .b]], false⟩, ⟨1, [.i .i64], false⟩, ⟨5, [.i .i64], false⟩] 4398046511075
  (.seq (.seq (.rg [o1 6 (.copy 5),
    ⟨true, [], [], .det 1 (.copy 0), [7], (some 7), none⟩,
    o1 8 (.len 7),
    o1 9 (.data (.bin .lss) [.t 6, .t 8])])
  (.cond (.t 9)
   .skip
   (.exit 0)))
  (.seq (.block 1 (.seq (.rg [⟨true, [], [], .det 1 (.copy 0), [12], (some 12), none⟩,
    o1 13 (.copy 5),
    o1 14 (.copy 1),
    o1 15 (.index 12 (.t 13)),
    o1 16 (.idx (.t 15)),
    o4 1 [0, 7, 12] (.store 0 [(0, 4)] 0 (.t 16) (.t 14))])
  (.seq (.rg [o1 17 (.copy 1),
    o1 18 (.data (.bin .add) [.t 17, .c (.int .i64 (1))]),
    o1 1 (.copy 18)])
  (.seq (.rg [⟨true, [], [], .det 1 (.copy 0), [19], (some 19), none⟩,
    o1 20 (.copy 5),
    o1 21 (.copy 1),
    o1 22 (.index 19 (.t 20)),
    o1 23 (.idx (.t 22)),
    o4 1 [0, 19] (.store 0 [(0, 4)] 1 (.t 23) (.t 21))])
  (.seq (.rg [o1 24 (.copy 1),
    o1 25 (.data (.bin .add) [.t 24, .c (.int .i64 (1))]),
    o1 1 (.copy 25)])
  (.seq (.rg [⟨true, [], [], .det 1 (.copy 0), [26], (some 26), none⟩,
    o1 27 (.copy 5),
    o1 28 (.copy 1),
    o1 29 (.index 26 (.t 27)),
    o1 30 (.idx (.t 29)),
    o4 1 [0, 26] (.store 0 [(0, 4)] 2 (.t 30) (.t 28))])
  (.seq (.rg [o1 31 (.copy 1),
    o1 32 (.data (.bin .add) [.t 31, .c (.int .i64 (1))]),
    o1 1 (.copy 32)])
  (.seq (.rg [⟨true, [], [], .det 1 (.copy 0), [33], (some 33), none⟩,
    o1 34 (.copy 5),
    o1 35 (.copy 1),
    o1 36 (.data (.bin .rem) [.t 35, .c (.int .i64 (3))]),
    o1 37 (.data (.bin .eql) [.t 36, .c (.int .i64 (0))]),
    o1 38 (.index 33 (.t 34)),
    o1 39 (.idx (.t 38)),
    o4 1 [0, 33] (.store 0 [(0, 4)] 3 (.t 39) (.t 37))])
  (.rg [o1 40 (.copy 1),
    o1 41 (.data (.bin .add) [.t 40, .c (.int .i64 (1))]),
    o1 1 (.copy 41)])))))))))
  (.rg [o1 10 (.copy 5),
    o1 11 (.data (.bin .add) [.t 10, .c (.int .i64 (1))]),
    o1 5 (.copy 11)])))))))
 (.seq (.rg [o1 42 (.copy 1),
   o1 4 (.copy 42)])
 .ret)))
def s_lmarkLedgeS : Sig := ⟨[.mt false [.sl (.own none) [.d, .d, .d, .d]], .rd false [.d]], (.one false [.d])⟩
noncomputable def E_lmarkLedgeS : TEnv := envOf []
noncomputable def f_lmarkLedgeS (n : Nat) : (List (Int × Int × Int × Bool)) × Int → Option ((Int) × List (Int × Int × Int × Bool)) := runFn n E_lmarkLedgeS c_lmarkLedgeS [[.sl [.i .i64, .i .i64, .i .i64, .b]], [.i .i64]] [.i .i64] [.sl [.i .i64, .i .i64, .i .i64, .b]] [4] (.mt 0 0 0)
noncomputable def g_lmarkLedgeS := f_lmarkLedgeS BIG
noncomputable def p_lmarkLedgeS : TSp := ⟨s_lmarkLedgeS, [[.sl [.i .i64, .i .i64, .i .i64, .b]], [.i .i64]], [.i .i64], [.sl [.i .i64, .i .i64, .i .i64, .b]], Ou.j (.mt 0 0 0), g_lmarkLedgeS⟩
theorem k_lmarkLedgeS : chkW PG E_lmarkLedgeS 298 s_lmarkLedgeS (c_lmarkLedgeS.ht 43) (.mt 0 0 0) = some (c_lmarkLedgeS.wc E_lmarkLedgeS, [4]) := by kernel_rfl
theorem ok_lmarkLedgeS : p_lmarkLedgeS.Ok PG 298 := mkOk (env_nil PG) k_lmarkLedgeS (by kernel_rfl)
theorem e_lmarkLedgeS (n : Nat) (a0 : List (Int × Int × Int × Bool)) (a1 : Int) : f_lmarkLedgeS n (a0, a1) =
  Option.bind (loopT n (X := (List (Int × Int × Int × Bool)) × Int × Int) (B := (List (Int × Int × Int × Bool)) × Int) (fun self1 x0 =>
    bif decide (x0.2.2 < (x0.1.length : Int)) then
     bnd x0.1.length x0.2.2 fun n2 =>
     Option.bind x0.1[n2]? fun y3 =>
     bnd (x0.1.set n2 (x0.2.1, y3.2)).length x0.2.2 fun n4 =>
     Option.bind (x0.1.set n2 (x0.2.1, y3.2))[n4]? fun y5 =>
     bnd ((x0.1.set n2 (x0.2.1, y3.2)).set n4 (y5.1, IntKind.wrap .i64 (x0.2.1 + (1 : Int)), y5.2.2)).length x0.2.2 fun n6 =>
     Option.bind ((x0.1.set n2 (x0.2.1, y3.2)).set n4 (y5.1, IntKind.wrap .i64 (x0.2.1 + (1 : Int)), y5.2.2))[n6]? fun y7 =>
     bif decide ((3 : Int) = 0) then
      none
     else bnd (((x0.1.set n2 (x0.2.1, y3.2)).set n4 (y5.1, IntKind.wrap .i64 (x0.2.1 + (1 : Int)), y5.2.2)).set n6 (y7.1, y7.2.1, IntKind.wrap .i64 ((IntKind.wrap .i64 (x0.2.1 + (1 : Int))) + (1 : Int)), y7.2.2.2)).length x0.2.2 fun n8 =>
     Option.bind (((x0.1.set n2 (x0.2.1, y3.2)).set n4 (y5.1, IntKind.wrap .i64 (x0.2.1 + (1 : Int)), y5.2.2)).set n6 (y7.1, y7.2.1, IntKind.wrap .i64 ((IntKind.wrap .i64 (x0.2.1 + (1 : Int))) + (1 : Int)), y7.2.2.2))[n8]? fun y9 =>
     self1 ((((x0.1.set n2 (x0.2.1, y3.2)).set n4 (y5.1, IntKind.wrap .i64 (x0.2.1 + (1 : Int)), y5.2.2)).set n6 (y7.1, y7.2.1, IntKind.wrap .i64 ((IntKind.wrap .i64 (x0.2.1 + (1 : Int))) + (1 : Int)), y7.2.2.2)).set n8 (y9.1, y9.2.1, y9.2.2.1, decide ((Int.tmod (IntKind.wrap .i64 ((IntKind.wrap .i64 ((IntKind.wrap .i64 (x0.2.1 + (1 : Int))) + (1 : Int))) + (1 : Int))) (3 : Int)) = (0 : Int))), IntKind.wrap .i64 ((IntKind.wrap .i64 ((IntKind.wrap .i64 ((IntKind.wrap .i64 (x0.2.1 + (1 : Int))) + (1 : Int))) + (1 : Int))) + (1 : Int)), IntKind.wrap .i64 (x0.2.2 + (1 : Int)))
    else some (x0.1, x0.2.1)) (a0, a1, (0 : Int)) : Option ((List (Int × Int × Int × Bool)) × Int)) fun x10 =>
  some (x10.2, x10.1) := by kernel_rfl
/- laws.markWeb -/
def c_lmarkWeb : TC :=
 (.seq (.rg [⟨false, [], [], .det 2 (.a (.t 0)), [2, 0], (some 2), none⟩,
   o1 4 (.lit [.i .i64] [.int .i64 (0)])])
 (.seq (.rg [o1 5 (.idx .nil),
   o1 6 (.load 2 [] 1 (.t 5) 1 true),
   o1 7 (.copy 1),
   ⟨false, [], [], .call 2 298 [.t 6, .t 7] (.mt 2 [] 1 6 0), [8, 2, 6], (some 8), none⟩,
   o1 1 (.copy 8)])
 (.seq (.rg [o1 9 (.copy 1),
   o1 4 (.copy 9)])
 .ret)))
def s_lmarkWeb : Sig := ⟨[.mt true [.d, .sl (.own none) [.d, .d, .d, .d]], .rd false [.d]], (.one false [.d])⟩
noncomputable def E_lmarkWeb : TEnv := envOf [(298, p_lmarkLedgeS)]
noncomputable def f_lmarkWeb (n : Nat) : (Int × List (Int × Int × Int × Bool)) × Int → Option ((Int) × Int × List (Int × Int × Int × Bool)) := runFn n E_lmarkWeb c_lmarkWeb [[.i .i64, .sl [.i .i64, .i .i64, .i .i64, .b]], [.i .i64]] [.i .i64] [.i .i64, .sl [.i .i64, .i .i64, .i .i64, .b]] [4] (.mt 0 2 0)
noncomputable def g_lmarkWeb := f_lmarkWeb BIG
noncomputable def p_lmarkWeb : TSp := ⟨s_lmarkWeb, [[.i .i64, .sl [.i .i64, .i .i64, .i .i64, .b]], [.i .i64]], [.i .i64], [.i .i64, .sl [.i .i64, .i .i64, .i .i64, .b]], Ou.j (.mt 0 2 0), g_lmarkWeb⟩
theorem k_lmarkWeb : chkW PG E_lmarkWeb 182 s_lmarkWeb (c_lmarkWeb.ht 10) (.mt 0 2 0) = some (c_lmarkWeb.wc E_lmarkWeb, [4]) := by kernel_rfl
theorem ok_lmarkWeb : p_lmarkWeb.Ok PG 182 := mkOk (env_cons ok_lmarkLedgeS (env_nil PG)) k_lmarkWeb (by kernel_rfl)
theorem e_lmarkWeb (n : Nat) (a0 : Int × List (Int × Int × Int × Bool)) (a1 : Int) : f_lmarkWeb n (a0, a1) =
  Option.bind (g_lmarkLedgeS (a0.2, a1)) fun r0 =>
  some (r0.1, (a0.1, r0.2)) := by kernel_rfl
/- laws.markEdgeS -/
def c_lmarkEdgeS : TC :=
 (.seq (.rg [o1 4 (.lit [.i .i64] [.int .i64 (0)])])
 (.seq (.join [⟨0, [.sl [.i .i64, .i .i64]], false⟩, ⟨1, [.i .i64], false⟩] 67108835 none (.seq (.rg [o1 5 (.lit [.i .i64] [.int .i64 (0)])])
 (.block 0 (.loop [⟨0, [.sl [.i .i64, .i .i64]], false⟩, ⟨1, [.i .i64], false⟩, ⟨5, [.i .i64], false⟩] 67108835
  (.seq (.seq (.rg [o1 6 (.copy 5),
    ⟨true, [], [], .det 1 (.copy 0), [7], (some 7), none⟩,
    o1 8 (.len 7),
    o1 9 (.data (.bin .lss) [.t 6, .t 8])])
  (.cond (.t 9)
   .skip
   (.exit 0)))
  (.seq (.block 1 (.seq (.rg [⟨true, [], [], .det 1 (.copy 0), [12], (some 12), none⟩,
    o1 13 (.copy 5),
    o1 14 (.copy 1),
    o1 15 (.index 12 (.t 13)),
    o1 16 (.idx (.t 15)),
    o4 1 [0, 7, 12] (.store 0 [(0, 2)] 0 (.t 16) (.t 14))])
  (.seq (.rg [o1 17 (.copy 1),
    o1 18 (.data (.bin .add) [.t 17, .c (.int .i64 (1))]),
    o1 1 (.copy 18)])
  (.seq (.rg [⟨true, [], [], .det 1 (.copy 0), [19], (some 19), none⟩,
    o1 20 (.copy 5),
    o1 21 (.copy 1),
    o1 22 (.index 19 (.t 20)),
    o1 23 (.idx (.t 22)),
    o4 1 [0, 19] (.store 0 [(0, 2)] 1 (.t 23) (.t 21))])
  (.rg [o1 24 (.copy 1),
    o1 25 (.data (.bin .add) [.t 24, .c (.int .i64 (1))]),
    o1 1 (.copy 25)])))))
  (.rg [o1 10 (.copy 5),
    o1 11 (.data (.bin .add) [.t 10, .c (.int .i64 (1))]),
    o1 5 (.copy 11)])))))))
 (.seq (.rg [o1 26 (.copy 1),
   o1 4 (.copy 26)])
 .ret)))
def s_lmarkEdgeS : Sig := ⟨[.mt false [.sl (.own none) [.d, .d]], .rd false [.d]], (.one false [.d])⟩
noncomputable def E_lmarkEdgeS : TEnv := envOf []
noncomputable def f_lmarkEdgeS (n : Nat) : (List (Int × Int)) × Int → Option ((Int) × List (Int × Int)) := runFn n E_lmarkEdgeS c_lmarkEdgeS [[.sl [.i .i64, .i .i64]], [.i .i64]] [.i .i64] [.sl [.i .i64, .i .i64]] [4] (.mt 0 0 0)
noncomputable def g_lmarkEdgeS := f_lmarkEdgeS BIG
noncomputable def p_lmarkEdgeS : TSp := ⟨s_lmarkEdgeS, [[.sl [.i .i64, .i .i64]], [.i .i64]], [.i .i64], [.sl [.i .i64, .i .i64]], Ou.j (.mt 0 0 0), g_lmarkEdgeS⟩
theorem k_lmarkEdgeS : chkW PG E_lmarkEdgeS 43 s_lmarkEdgeS (c_lmarkEdgeS.ht 27) (.mt 0 0 0) = some (c_lmarkEdgeS.wc E_lmarkEdgeS, [4]) := by kernel_rfl
theorem ok_lmarkEdgeS : p_lmarkEdgeS.Ok PG 43 := mkOk (env_nil PG) k_lmarkEdgeS (by kernel_rfl)
theorem e_lmarkEdgeS (n : Nat) (a0 : List (Int × Int)) (a1 : Int) : f_lmarkEdgeS n (a0, a1) =
  Option.bind (loopT n (X := (List (Int × Int)) × Int × Int) (B := (List (Int × Int)) × Int) (fun self1 x0 =>
    bif decide (x0.2.2 < (x0.1.length : Int)) then
     bnd x0.1.length x0.2.2 fun n2 =>
     Option.bind x0.1[n2]? fun y3 =>
     bnd (x0.1.set n2 (x0.2.1, y3.2)).length x0.2.2 fun n4 =>
     Option.bind (x0.1.set n2 (x0.2.1, y3.2))[n4]? fun y5 =>
     self1 ((x0.1.set n2 (x0.2.1, y3.2)).set n4 (y5.1, IntKind.wrap .i64 (x0.2.1 + (1 : Int))), IntKind.wrap .i64 ((IntKind.wrap .i64 (x0.2.1 + (1 : Int))) + (1 : Int)), IntKind.wrap .i64 (x0.2.2 + (1 : Int)))
    else some (x0.1, x0.2.1)) (a0, a1, (0 : Int)) : Option ((List (Int × Int)) × Int)) fun x6 =>
  some (x6.2, x6.1) := by kernel_rfl
/- laws.markIntS -/
def c_lmarkIntS : TC :=
 (.seq (.rg [o1 4 (.lit [.i .i64] [.int .i64 (0)])])
 (.seq (.join [⟨0, [.sl [.i .i64]], false⟩, ⟨1, [.i .i64], false⟩] 262115 none (.seq (.rg [o1 5 (.lit [.i .i64] [.int .i64 (0)])])
 (.block 0 (.loop [⟨0, [.sl [.i .i64]], false⟩, ⟨1, [.i .i64], false⟩, ⟨5, [.i .i64], false⟩] 262115
  (.seq (.seq (.rg [o1 6 (.copy 5),
    ⟨true, [], [], .det 1 (.copy 0), [7], (some 7), none⟩,
    o1 8 (.len 7),
    o1 9 (.data (.bin .lss) [.t 6, .t 8])])
  (.cond (.t 9)
   .skip
   (.exit 0)))
  (.seq (.block 1 (.seq (.rg [⟨true, [], [], .det 1 (.copy 0), [12], (some 12), none⟩,
    o1 13 (.copy 5),
    o1 14 (.copy 1),
    o1 15 (.index 12 (.t 13)),
    o4 1 [0, 7, 12] (.store 0 [(0, 1)] 0 (.t 15) (.t 14))])
  (.rg [o1 16 (.copy 1),
    o1 17 (.data (.bin .add) [.t 16, .c (.int .i64 (1))]),
    o1 1 (.copy 17)])))
  (.rg [o1 10 (.copy 5),
    o1 11 (.data (.bin .add) [.t 10, .c (.int .i64 (1))]),
    o1 5 (.copy 11)])))))))
 (.seq (.rg [o1 18 (.copy 1),
   o1 4 (.copy 18)])
 .ret)))
def s_lmarkIntS : Sig := ⟨[.mt false [.sl (.own none) [.d]], .rd false [.d]], (.one false [.d])⟩
noncomputable def E_lmarkIntS : TEnv := envOf []
noncomputable def f_lmarkIntS (n : Nat) : List (Int) × Int → Option ((Int) × List (Int)) := runFn n E_lmarkIntS c_lmarkIntS [[.sl [.i .i64]], [.i .i64]] [.i .i64] [.sl [.i .i64]] [4] (.mt 0 0 0)
noncomputable def g_lmarkIntS := f_lmarkIntS BIG
noncomputable def p_lmarkIntS : TSp := ⟨s_lmarkIntS, [[.sl [.i .i64]], [.i .i64]], [.i .i64], [.sl [.i .i64]], Ou.j (.mt 0 0 0), g_lmarkIntS⟩
theorem k_lmarkIntS : chkW PG E_lmarkIntS 44 s_lmarkIntS (c_lmarkIntS.ht 19) (.mt 0 0 0) = some (c_lmarkIntS.wc E_lmarkIntS, [4]) := by kernel_rfl
theorem ok_lmarkIntS : p_lmarkIntS.Ok PG 44 := mkOk (env_nil PG) k_lmarkIntS (by kernel_rfl)
theorem e_lmarkIntS (n : Nat) (a0 : List (Int)) (a1 : Int) : f_lmarkIntS n (a0, a1) =
  Option.bind (loopT n (X := (List (Int)) × Int × Int) (B := (List (Int)) × Int) (fun self1 x0 =>
    bif decide (x0.2.2 < (x0.1.length : Int)) then
     bnd x0.1.length x0.2.2 fun n2 =>
     Option.bind x0.1[n2]? fun y3 =>
     self1 (x0.1.set n2 x0.2.1, IntKind.wrap .i64 (x0.2.1 + (1 : Int)), IntKind.wrap .i64 (x0.2.2 + (1 : Int)))
    else some (x0.1, x0.2.1)) (a0, a1, (0 : Int)) : Option ((List (Int)) × Int)) fun x4 =>
  some (x4.2, x4.1) := by kernel_rfl
/- laws.markAnswer -/
def c_lmarkAnswer : TC :=
 (.seq (.rg [⟨false, [], [], .det 2 (.a (.t 0)), [2, 0], (some 2), none⟩,
   o1 4 (.lit [.i .i64] [.int .i64 (0)])])
 (.seq (.rg [o1 5 (.idx .nil),
   o1 6 (.load 2 [] 2 (.t 5) 1 true),
   o1 7 (.copy 1),
   ⟨false, [], [], .call 2 43 [.t 6, .t 7] (.mt 2 [] 2 6 0), [8, 2, 6], (some 8), none⟩,
   o1 1 (.copy 8)])
 (.seq (.rg [o1 9 (.idx .nil),
   o1 10 (.load 2 [] 3 (.t 9) 1 true),
   o1 11 (.copy 1),
   ⟨false, [], [], .call 2 44 [.t 10, .t 11] (.mt 2 [] 3 10 0), [12, 2, 10], (some 12), none⟩,
   o1 1 (.copy 12)])
 (.seq (.rg [o1 13 (.copy 1),
   o1 4 (.copy 13)])
 .ret))))
def s_lmarkAnswer : Sig := ⟨[.mt true [.d, .d, .sl (.own none) [.d, .d], .sl (.own none) [.d]], .rd false [.d]], (.one false [.d])⟩
noncomputable def E_lmarkAnswer : TEnv := envOf [(43, p_lmarkEdgeS), (44, p_lmarkIntS)]
noncomputable def f_lmarkAnswer (n : Nat) : (Int × Bool × List (Int × Int) × List (Int)) × Int → Option ((Int) × Int × Bool × List (Int × Int) × List (Int)) := runFn n E_lmarkAnswer c_lmarkAnswer [[.i .i64, .b, .sl [.i .i64, .i .i64], .sl [.i .i64]], [.i .i64]] [.i .i64] [.i .i64, .b, .sl [.i .i64, .i .i64], .sl [.i .i64]] [4] (.mt 0 2 0)
noncomputable def g_lmarkAnswer := f_lmarkAnswer BIG
noncomputable def p_lmarkAnswer : TSp := ⟨s_lmarkAnswer, [[.i .i64, .b, .sl [.i .i64, .i .i64], .sl [.i .i64]], [.i .i64]], [.i .i64], [.i .i64, .b, .sl [.i .i64, .i .i64], .sl [.i .i64]], Ou.j (.mt 0 2 0), g_lmarkAnswer⟩
theorem k_lmarkAnswer : chkW PG E_lmarkAnswer 74 s_lmarkAnswer (c_lmarkAnswer.ht 14) (.mt 0 2 0) = some (c_lmarkAnswer.wc E_lmarkAnswer, [4]) := by kernel_rfl
theorem ok_lmarkAnswer : p_lmarkAnswer.Ok PG 74 := mkOk (env_cons ok_lmarkEdgeS (env_cons ok_lmarkIntS (env_nil PG))) k_lmarkAnswer (by kernel_rfl)
theorem e_lmarkAnswer (n : Nat) (a0 : Int × Bool × List (Int × Int) × List (Int)) (a1 : Int) : f_lmarkAnswer n (a0, a1) =
  Option.bind (g_lmarkEdgeS (a0.2.2.1, a1)) fun r0 =>
  Option.bind (g_lmarkIntS (a0.2.2.2, r0.1)) fun r1 =>
  some (r1.1, (a0.1, a0.2.1, r0.2, r1.2)) := by kernel_rfl
/- laws.markShard -/
def c_lmarkShard : TC :=
 (.seq (.rg [⟨false, [], [], .det 2 (.a (.t 0)), [2, 0], (some 2), none⟩,
   o1 4 (.lit [.i .i64] [.int .i64 (0)])])
 (.seq (.rg [o1 5 (.idx .nil),
   o1 6 (.load 2 [] 1 (.t 5) 2 true),
   o1 7 (.copy 1),
   ⟨false, [], [], .call 2 182 [.t 6, .t 7] (.mt 2 [] 1 6 0), [8, 2, 6], (some 8), none⟩,
   o1 1 (.copy 8)])
 (.seq (.rg [o1 9 (.idx .nil),
   o1 10 (.load 2 [] 3 (.t 9) 4 true),
   o1 11 (.copy 1),
   ⟨false, [], [], .call 2 74 [.t 10, .t 11] (.mt 2 [] 3 10 0), [12, 2, 10], (some 12), none⟩,
   o1 1 (.copy 12)])
 (.seq (.rg [o1 13 (.copy 1),
   o1 4 (.copy 13)])
 .ret))))
def s_lmarkShard : Sig := ⟨[.mt true [.d, .d, .sl (.own none) [.d, .d, .d, .d], .d, .d, .sl (.own none) [.d, .d], .sl (.own none) [.d]], .rd false [.d]], (.one false [.d])⟩
noncomputable def E_lmarkShard : TEnv := envOf [(182, p_lmarkWeb), (74, p_lmarkAnswer)]
noncomputable def f_lmarkShard (n : Nat) : (Int × Int × List (Int × Int × Int × Bool) × Int × Bool × List (Int × Int) × List (Int)) × Int → Option ((Int) × Int × Int × List (Int × Int × Int × Bool) × Int × Bool × List (Int × Int) × List (Int)) := runFn n E_lmarkShard c_lmarkShard [[.i .i64, .i .i64, .sl [.i .i64, .i .i64, .i .i64, .b], .i .i64, .b, .sl [.i .i64, .i .i64], .sl [.i .i64]], [.i .i64]] [.i .i64] [.i .i64, .i .i64, .sl [.i .i64, .i .i64, .i .i64, .b], .i .i64, .b, .sl [.i .i64, .i .i64], .sl [.i .i64]] [4] (.mt 0 2 0)
noncomputable def g_lmarkShard := f_lmarkShard BIG
noncomputable def p_lmarkShard : TSp := ⟨s_lmarkShard, [[.i .i64, .i .i64, .sl [.i .i64, .i .i64, .i .i64, .b], .i .i64, .b, .sl [.i .i64, .i .i64], .sl [.i .i64]], [.i .i64]], [.i .i64], [.i .i64, .i .i64, .sl [.i .i64, .i .i64, .i .i64, .b], .i .i64, .b, .sl [.i .i64, .i .i64], .sl [.i .i64]], Ou.j (.mt 0 2 0), g_lmarkShard⟩
theorem k_lmarkShard : chkW PG E_lmarkShard 53 s_lmarkShard (c_lmarkShard.ht 14) (.mt 0 2 0) = some (c_lmarkShard.wc E_lmarkShard, [4]) := by kernel_rfl
theorem ok_lmarkShard : p_lmarkShard.Ok PG 53 := mkOk (env_cons ok_lmarkWeb (env_cons ok_lmarkAnswer (env_nil PG))) k_lmarkShard (by kernel_rfl)
theorem e_lmarkShard (n : Nat) (a0 : Int × Int × List (Int × Int × Int × Bool) × Int × Bool × List (Int × Int) × List (Int)) (a1 : Int) : f_lmarkShard n (a0, a1) =
  Option.bind (g_lmarkWeb ((a0.2.1, a0.2.2.1), a1)) fun r0 =>
  Option.bind (g_lmarkAnswer (a0.2.2.2, r0.1)) fun r1 =>
  some (r1.1, (a0.1, a0.2.1, r0.2.2, a0.2.2.2.1, a0.2.2.2.2.1, r1.2.2.2)) := by kernel_rfl
/- laws.heldEdgeS -/
def c_lheldEdgeS : TC :=
 (.seq (.rg [o1 4 (.lit [.i .i64] [.int .i64 (0)])])
 (.seq (.join [⟨1, [.i .i64], false⟩] 1073741810 (some [⟨4, [.i .i64], false⟩]) (.seq (.rg [o1 5 (.lit [.i .i64] [.int .i64 (0)])])
 (.block 0 (.loop [⟨1, [.i .i64], false⟩, ⟨5, [.i .i64], false⟩] 1073741810
  (.seq (.seq (.rg [o1 6 (.copy 5),
    o1 7 (.copy 0),
    o1 8 (.len 7),
    o1 9 (.data (.bin .lss) [.t 6, .t 8])])
  (.cond (.t 9)
   .skip
   (.exit 0)))
  (.seq (.block 1 (.seq (.seq (.rg [o1 12 (.copy 0),
    o1 13 (.copy 5),
    o1 14 (.index 12 (.t 13)),
    o1 15 (.idx (.t 14)),
    o1 16 (.load 12 [(0, 2)] 0 (.t 15) 1 false),
    o1 17 (.copy 1),
    o1 18 (.data (.bin .neq) [.t 16, .t 17])])
  (.cond (.t 18)
   (.seq (.rg [o1 4 (.lit [.i .i64] [.int .i64 (-1)])])
   .ret)
   .skip))
  (.seq (.rg [o1 19 (.copy 1),
    o1 20 (.data (.bin .add) [.t 19, .c (.int .i64 (1))]),
    o1 1 (.copy 20)])
  (.seq (.seq (.rg [o1 21 (.copy 0),
    o1 22 (.copy 5),
    o1 23 (.index 21 (.t 22)),
    o1 24 (.idx (.t 23)),
    o1 25 (.load 21 [(0, 2)] 1 (.t 24) 1 false),
    o1 26 (.copy 1),
    o1 27 (.data (.bin .neq) [.t 25, .t 26])])
  (.cond (.t 27)
   (.seq (.rg [o1 4 (.lit [.i .i64] [.int .i64 (-1)])])
   .ret)
   .skip))
  (.rg [o1 28 (.copy 1),
    o1 29 (.data (.bin .add) [.t 28, .c (.int .i64 (1))]),
    o1 1 (.copy 29)])))))
  (.rg [o1 10 (.copy 5),
    o1 11 (.data (.bin .add) [.t 10, .c (.int .i64 (1))]),
    o1 5 (.copy 11)])))))))
 (.seq (.rg [o1 30 (.copy 1),
   o1 4 (.copy 30)])
 .ret)))
def s_lheldEdgeS : Sig := ⟨[.rd false [.sl (.own none) [.d, .d]], .rd false [.d]], (.one false [.d])⟩
noncomputable def E_lheldEdgeS : TEnv := envOf []
noncomputable def f_lheldEdgeS (n : Nat) : (List (Int × Int)) × Int → Option ((Int) × Unit) := runFn n E_lheldEdgeS c_lheldEdgeS [[.sl [.i .i64, .i .i64]], [.i .i64]] [.i .i64] [] [4] .no
noncomputable def g_lheldEdgeS := f_lheldEdgeS BIG
noncomputable def p_lheldEdgeS : TSp := ⟨s_lheldEdgeS, [[.sl [.i .i64, .i .i64]], [.i .i64]], [.i .i64], [], Ou.j .no, g_lheldEdgeS⟩
theorem k_lheldEdgeS : chkW PG E_lheldEdgeS 63 s_lheldEdgeS (c_lheldEdgeS.ht 31) .no = some (c_lheldEdgeS.wc E_lheldEdgeS, [4]) := by kernel_rfl
theorem ok_lheldEdgeS : p_lheldEdgeS.Ok PG 63 := mkOk (env_nil PG) k_lheldEdgeS (by kernel_rfl)
theorem e_lheldEdgeS (n : Nat) (a0 : List (Int × Int)) (a1 : Int) : f_lheldEdgeS n (a0, a1) =
  Option.bind (loopT n (X := Int × Int) (B := (Int) ⊕ (Int)) (fun self1 x0 =>
    bif decide (x0.2 < (a0.length : Int)) then
     bnd a0.length x0.2 fun n2 =>
     Option.bind a0[n2]? fun y3 =>
     bif !decide (y3.1 = x0.1) then
      some (Sum.inr (-1 : Int))
     else bnd a0.length x0.2 fun n4 =>
     Option.bind a0[n4]? fun y5 =>
     bif !decide (y5.2 = (IntKind.wrap .i64 (x0.1 + (1 : Int)))) then
      some (Sum.inr (-1 : Int))
     else self1 (IntKind.wrap .i64 ((IntKind.wrap .i64 (x0.1 + (1 : Int))) + (1 : Int)), IntKind.wrap .i64 (x0.2 + (1 : Int)))
    else some (Sum.inl x0.1)) (a1, (0 : Int)) : Option ((Int) ⊕ (Int))) fun y => match y with
  | .inl x6 =>
   some (x6, ())
  | .inr x6 =>
   some (x6, ()) := by kernel_rfl
/- laws.FnExactOwned -/
def c_lFnExactOwned : TC :=
 (.seq (.rg [o1 1 (.a (.t 0)),
   o1 2 (.lit [.b] [.bool false])])
 (.seq (.rg [o1 3 (.lit [.i .i64] [.int .i64 (1048576)])])
 (.seq (.rg [o1 11 (.load 1 [] 0 .nil 7 false),
   o1 12 (.copy 3),
   o3 13 60 [.t 11, .t 12],
   o1 3 (.copy 13)])
 (.seq (.seq (.rg [o1 14 (.copy 3),
   o1 15 (.data (.bin .lss) [.t 14, .c (.int .i64 (0))])])
 (.cond (.t 15)
  (.seq (.rg [o1 2 (.lit [.b] [.bool true])])
  .ret)
  .skip))
 (.seq (.rg [o1 16 (.load 1 [] 0 .nil 7 false),
   o3 17 62 [.t 16],
   o3 18 61 [.t 17],
   ⟨false, [], [], .det 2 (.copy 18), [4, 18], (some 4), none⟩])
 (.seq (.rg [o1 19 (.load 1 [] 0 .nil 7 false),
   o3 20 62 [.t 19],
   ⟨false, [], [], .det 2 (.a (.c [.i .i64, .i .i64, .sl [.i .i64, .i .i64, .i .i64, .b], .i .i64, .b, .sl [.i .i64, .i .i64], .sl [.i .i64]] [.int .i64 (0), .int .i64 (0), .slice none 0 0, .int .i64 (0), .bool false, .slice none 0 0, .slice none 0 0])), [5, 1000000001], (some 5), none⟩,
   o4 2 [5, 20] (.store 5 [] 0 .nil (.t 20))])
 (.seq (.rg [o1 21 (.load 5 [] 0 .nil 7 true),
   o3 22 32 [.t 21],
   ⟨false, [], [], .det 2 (.copy 22), [6, 22], (some 6), none⟩])
 (.seq (.seq (.rg [⟨true, [], [], .det 1 (.copy 6), [23], (some 23), none⟩,
   ⟨true, [], [], .det 1 (.copy 4), [24], (some 24), none⟩,
   o3 25 41 [.t 23, .t 24],
   o1 26 (.data .not [.t 25])])
 (.cond (.t 26)
  (.seq (.rg [o1 2 (.lit [.b] [.bool false])])
  .ret)
  .skip))
 (.seq (.seq (.rg [o1 27 (.load 5 [] 0 .nil 7 true),
   o1 28 (.load 1 [] 0 .nil 7 false),
   o3 29 62 [.t 28],
   o3 30 52 [.t 27, .t 29],
   o1 31 (.data .not [.t 30])])
 (.cond (.t 31)
  (.seq (.rg [o1 2 (.lit [.b] [.bool false])])
  .ret)
  .skip))
 (.seq (.rg [o1 7 (.lit [.i .i64] [.int .i64 (1)])])
 (.seq (.rg [o1 32 (.load 5 [] 0 .nil 7 true),
   o1 33 (.copy 7),
   ⟨false, [], [], .call 2 53 [.t 32, .t 33] (.mt 5 [] 0 32 0), [34, 5, 21, 27, 32], (some 34), none⟩,
   o1 7 (.copy 34)])
 (.seq (.seq (.join [⟨42, [.b], false⟩] 8761733283840 none (.rg [o1 35 (.copy 7),
   o1 36 (.data (.bin .lss) [.t 35, .c (.int .i64 (0))]),
   o1 37 (.copy 36),
   ⟨true, [], [], .det 1 (.copy 6), [38], (some 38), some (2, false)⟩,
   ⟨true, [], [], .det 1 (.copy 4), [39], (some 39), some (2, false)⟩,
   ⟨false, [], [], .call 1 41 [.t 38, .t 39] .no, [40], (some 40), some (2, false)⟩,
   o2 41 (.data .not [.t 40]) 2 false,
   ⟨false, [], [], .pick 37 (.c (.bool true)) (.t 41), [42], (some 42), none⟩]))
 (.cond (.t 42)
  (.seq (.rg [o1 2 (.lit [.b] [.bool false])])
  .ret)
  .skip))
 (.seq (.rg [o1 8 (.lit [.i .i64] [.int .i64 (1)])])
 (.seq (.rg [⟨true, [], [], .det 1 (.copy 6), [43], (some 43), none⟩,
   o1 44 (.copy 8),
   ⟨false, [], [], .call 2 43 [.t 43, .t 44] (.mt 6 [] 0 43 0), [45, 6, 23, 43], (some 45), none⟩,
   o1 8 (.copy 45)])
 (.seq (.rg [o1 9 (.lit [.i .i64] [.int .i64 (1)])])
 (.seq (.rg [⟨true, [], [], .det 1 (.copy 6), [46], (some 46), none⟩,
   o1 47 (.copy 9),
   o3 48 63 [.t 46, .t 47],
   o1 9 (.copy 48)])
 (.seq (.seq (.rg [o1 49 (.copy 9),
   o1 50 (.data (.bin .lss) [.t 49, .c (.int .i64 (0))])])
 (.cond (.t 50)
  (.seq (.rg [o1 2 (.lit [.b] [.bool false])])
  .ret)
  .skip))
 (.seq (.seq (.rg [o1 51 (.copy 9),
   o1 52 (.copy 8),
   o1 53 (.data (.bin .neq) [.t 51, .t 52])])
 (.cond (.t 53)
  (.seq (.rg [o1 2 (.lit [.b] [.bool false])])
  .ret)
  .skip))
 (.seq (.rg [o1 54 (.load 1 [] 0 .nil 7 false),
   o3 55 62 [.t 54],
   o3 56 32 [.t 55],
   ⟨false, [], [], .det 2 (.copy 56), [10, 56], (some 10), none⟩])
 (.seq (.seq (.rg [⟨false, [], [], .det 2 (.copy 10), [57, 10], (some 57), none⟩,
   ⟨false, [], [], .det 2 (.copy 4), [58, 4, 24], (some 58), none⟩,
   o3 59 41 [.t 57, .t 58],
   o1 60 (.data .not [.t 59])])
 (.cond (.t 60)
  (.seq (.rg [o1 2 (.lit [.b] [.bool false])])
  .ret)
  .skip))
 (.seq (.rg [o1 9 (.lit [.i .i64] [.int .i64 (1)])])
 (.seq (.rg [⟨false, [], [], .det 2 (.copy 6), [61, 6, 46], (some 61), none⟩,
   o1 62 (.copy 9),
   o3 63 63 [.t 61, .t 62],
   o1 9 (.copy 63)])
 (.seq (.seq (.rg [o1 64 (.copy 9),
   o1 65 (.data (.bin .lss) [.t 64, .c (.int .i64 (0))])])
 (.cond (.t 65)
  (.seq (.rg [o1 2 (.lit [.b] [.bool false])])
  .ret)
  .skip))
 (.seq (.seq (.rg [o1 66 (.copy 9),
   o1 67 (.copy 8),
   o1 68 (.data (.bin .neq) [.t 66, .t 67])])
 (.cond (.t 68)
  (.seq (.rg [o1 2 (.lit [.b] [.bool false])])
  .ret)
  .skip))
 (.seq (.rg [o1 2 (.lit [.b] [.bool true])])
 .ret)))))))))))))))))))))))))
def s_lFnExactOwned : Sig := ⟨[.rd true [.d, .d, .sl (.own none) [.d, .d, .d, .d], .d, .d, .sl (.own none) [.d, .d], .sl (.own none) [.d]]], (.one false [.d])⟩
noncomputable def E_lFnExactOwned : TEnv := envOf [(60, p_lszShard), (62, p_ltoShard), (61, p_sOwned), (32, p_iOwned), (41, p_leqEdgeS), (52, p_leqShard), (53, p_lmarkShard), (43, p_lmarkEdgeS), (63, p_lheldEdgeS)]
noncomputable def f_lFnExactOwned (n : Nat) : (Int × Int × List (Int × Int × Int × Bool) × Int × Bool × List (Int × Int) × List (Int)) → Option ((Bool) × Unit) := runFn n E_lFnExactOwned c_lFnExactOwned [[.i .i64, .i .i64, .sl [.i .i64, .i .i64, .i .i64, .b], .i .i64, .b, .sl [.i .i64, .i .i64], .sl [.i .i64]]] [.b] [] [2] .no
noncomputable def g_lFnExactOwned := f_lFnExactOwned BIG
noncomputable def p_lFnExactOwned : TSp := ⟨s_lFnExactOwned, [[.i .i64, .i .i64, .sl [.i .i64, .i .i64, .i .i64, .b], .i .i64, .b, .sl [.i .i64, .i .i64], .sl [.i .i64]]], [.b], [], Ou.j .no, g_lFnExactOwned⟩
theorem k_lFnExactOwned : chkW PG E_lFnExactOwned 8 s_lFnExactOwned (c_lFnExactOwned.ht 69) .no = some (c_lFnExactOwned.wc E_lFnExactOwned, [2]) := by kernel_rfl
theorem ok_lFnExactOwned : p_lFnExactOwned.Ok PG 8 := mkOk (env_cons ok_lszShard (env_cons ok_ltoShard (env_cons ok_sOwned (env_cons ok_iOwned (env_cons ok_leqEdgeS (env_cons ok_leqShard (env_cons ok_lmarkShard (env_cons ok_lmarkEdgeS (env_cons ok_lheldEdgeS (env_nil PG)))))))))) k_lFnExactOwned (by kernel_rfl)
theorem e_lFnExactOwned (n : Nat) (a0 : Int × Int × List (Int × Int × Int × Bool) × Int × Bool × List (Int × Int) × List (Int)) : f_lFnExactOwned n a0 =
  Option.bind (g_lszShard (a0, (1048576 : Int))) fun r0 =>
  bif decide (r0.1 < (0 : Int)) then
   some (true, ())
  else Option.bind (g_ltoShard a0) fun r1 =>
  Option.bind (g_sOwned r1.1) fun r2 =>
  Option.bind (g_ltoShard a0) fun r3 =>
  Option.bind (g_iOwned r3.1) fun r4 =>
  Option.bind (g_leqEdgeS (r4.1, r2.1)) fun r5 =>
  bif !r5.1 then
   some (false, ())
  else Option.bind (g_ltoShard a0) fun r6 =>
  Option.bind (g_leqShard (r3.1, r6.1)) fun r7 =>
  bif !r7.1 then
   some (false, ())
  else Option.bind (g_lmarkShard (r3.1, (1 : Int))) fun r8 =>
  Option.bind (bif decide (r8.1 < (0 : Int)) then
    some true
   else Option.bind (g_leqEdgeS (r4.1, r2.1)) fun r9 =>
   some !r9.1 : Option (Bool)) fun x10 =>
  bif x10 then
   some (false, ())
  else Option.bind (g_lmarkEdgeS (r4.1, (1 : Int))) fun r11 =>
  Option.bind (g_lheldEdgeS (r11.2, (1 : Int))) fun r12 =>
  bif decide (r12.1 < (0 : Int)) then
   some (false, ())
  else bif !decide (r12.1 = r11.1) then
   some (false, ())
  else Option.bind (g_ltoShard a0) fun r13 =>
  Option.bind (g_iOwned r13.1) fun r14 =>
  Option.bind (g_leqEdgeS (r14.1, r2.1)) fun r15 =>
  bif !r15.1 then
   some (false, ())
  else Option.bind (g_lheldEdgeS (r11.2, (1 : Int))) fun r16 =>
  bif decide (r16.1 < (0 : Int)) then
   some (false, ())
  else bif !decide (r16.1 = r11.1) then
   some (false, ())
  else some (true, ()) := by kernel_rfl
/- laws.heldIntS -/
def c_lheldIntS : TC :=
 (.seq (.rg [o1 4 (.lit [.i .i64] [.int .i64 (0)])])
 (.seq (.join [⟨1, [.i .i64], false⟩] 1048562 (some [⟨4, [.i .i64], false⟩]) (.seq (.rg [o1 5 (.lit [.i .i64] [.int .i64 (0)])])
 (.block 0 (.loop [⟨1, [.i .i64], false⟩, ⟨5, [.i .i64], false⟩] 1048562
  (.seq (.seq (.rg [o1 6 (.copy 5),
    o1 7 (.copy 0),
    o1 8 (.len 7),
    o1 9 (.data (.bin .lss) [.t 6, .t 8])])
  (.cond (.t 9)
   .skip
   (.exit 0)))
  (.seq (.block 1 (.seq (.seq (.rg [o1 12 (.copy 0),
    o1 13 (.copy 5),
    o1 14 (.index 12 (.t 13)),
    o1 15 (.load 12 [(0, 1)] 0 (.t 14) 1 false),
    o1 16 (.copy 1),
    o1 17 (.data (.bin .neq) [.t 15, .t 16])])
  (.cond (.t 17)
   (.seq (.rg [o1 4 (.lit [.i .i64] [.int .i64 (-1)])])
   .ret)
   .skip))
  (.rg [o1 18 (.copy 1),
    o1 19 (.data (.bin .add) [.t 18, .c (.int .i64 (1))]),
    o1 1 (.copy 19)])))
  (.rg [o1 10 (.copy 5),
    o1 11 (.data (.bin .add) [.t 10, .c (.int .i64 (1))]),
    o1 5 (.copy 11)])))))))
 (.seq (.rg [o1 20 (.copy 1),
   o1 4 (.copy 20)])
 .ret)))
def s_lheldIntS : Sig := ⟨[.rd false [.sl (.own none) [.d]], .rd false [.d]], (.one false [.d])⟩
noncomputable def E_lheldIntS : TEnv := envOf []
noncomputable def f_lheldIntS (n : Nat) : List (Int) × Int → Option ((Int) × Unit) := runFn n E_lheldIntS c_lheldIntS [[.sl [.i .i64]], [.i .i64]] [.i .i64] [] [4] .no
noncomputable def g_lheldIntS := f_lheldIntS BIG
noncomputable def p_lheldIntS : TSp := ⟨s_lheldIntS, [[.sl [.i .i64]], [.i .i64]], [.i .i64], [], Ou.j .no, g_lheldIntS⟩
theorem k_lheldIntS : chkW PG E_lheldIntS 45 s_lheldIntS (c_lheldIntS.ht 21) .no = some (c_lheldIntS.wc E_lheldIntS, [4]) := by kernel_rfl
theorem ok_lheldIntS : p_lheldIntS.Ok PG 45 := mkOk (env_nil PG) k_lheldIntS (by kernel_rfl)
theorem e_lheldIntS (n : Nat) (a0 : List (Int)) (a1 : Int) : f_lheldIntS n (a0, a1) =
  Option.bind (loopT n (X := Int × Int) (B := (Int) ⊕ (Int)) (fun self1 x0 =>
    bif decide (x0.2 < (a0.length : Int)) then
     bnd a0.length x0.2 fun n2 =>
     Option.bind a0[n2]? fun y3 =>
     bif !decide (y3 = x0.1) then
      some (Sum.inr (-1 : Int))
     else self1 (IntKind.wrap .i64 (x0.1 + (1 : Int)), IntKind.wrap .i64 (x0.2 + (1 : Int)))
    else some (Sum.inl x0.1)) (a1, (0 : Int)) : Option ((Int) ⊕ (Int))) fun y => match y with
  | .inl x4 =>
   some (x4, ())
  | .inr x4 =>
   some (x4, ()) := by kernel_rfl
/- laws.heldAnswer -/
def c_lheldAnswer : TC :=
 (.seq (.rg [o1 2 (.a (.t 0)),
   o1 4 (.lit [.i .i64] [.int .i64 (0)])])
 (.seq (.rg [o1 5 (.idx .nil),
   o1 6 (.load 2 [] 2 (.t 5) 1 false),
   o1 7 (.copy 1),
   o3 8 63 [.t 6, .t 7],
   o1 1 (.copy 8)])
 (.seq (.seq (.rg [o1 9 (.copy 1),
   o1 10 (.data (.bin .lss) [.t 9, .c (.int .i64 (0))])])
 (.cond (.t 10)
  (.seq (.rg [o1 4 (.lit [.i .i64] [.int .i64 (-1)])])
  .ret)
  .skip))
 (.seq (.rg [o1 11 (.idx .nil),
   o1 12 (.load 2 [] 3 (.t 11) 1 false),
   o1 13 (.copy 1),
   o3 14 45 [.t 12, .t 13],
   o1 1 (.copy 14)])
 (.seq (.seq (.rg [o1 15 (.copy 1),
   o1 16 (.data (.bin .lss) [.t 15, .c (.int .i64 (0))])])
 (.cond (.t 16)
  (.seq (.rg [o1 4 (.lit [.i .i64] [.int .i64 (-1)])])
  .ret)
  .skip))
 (.seq (.rg [o1 17 (.copy 1),
   o1 4 (.copy 17)])
 .ret))))))
def s_lheldAnswer : Sig := ⟨[.rd true [.d, .d, .sl (.own none) [.d, .d], .sl (.own none) [.d]], .rd false [.d]], (.one false [.d])⟩
noncomputable def E_lheldAnswer : TEnv := envOf [(63, p_lheldEdgeS), (45, p_lheldIntS)]
noncomputable def f_lheldAnswer (n : Nat) : (Int × Bool × List (Int × Int) × List (Int)) × Int → Option ((Int) × Unit) := runFn n E_lheldAnswer c_lheldAnswer [[.i .i64, .b, .sl [.i .i64, .i .i64], .sl [.i .i64]], [.i .i64]] [.i .i64] [] [4] .no
noncomputable def g_lheldAnswer := f_lheldAnswer BIG
noncomputable def p_lheldAnswer : TSp := ⟨s_lheldAnswer, [[.i .i64, .b, .sl [.i .i64, .i .i64], .sl [.i .i64]], [.i .i64]], [.i .i64], [], Ou.j .no, g_lheldAnswer⟩
theorem k_lheldAnswer : chkW PG E_lheldAnswer 75 s_lheldAnswer (c_lheldAnswer.ht 18) .no = some (c_lheldAnswer.wc E_lheldAnswer, [4]) := by kernel_rfl
theorem ok_lheldAnswer : p_lheldAnswer.Ok PG 75 := mkOk (env_cons ok_lheldEdgeS (env_cons ok_lheldIntS (env_nil PG))) k_lheldAnswer (by kernel_rfl)
theorem e_lheldAnswer (n : Nat) (a0 : Int × Bool × List (Int × Int) × List (Int)) (a1 : Int) : f_lheldAnswer n (a0, a1) =
  Option.bind (g_lheldEdgeS (a0.2.2.1, a1)) fun r0 =>
  bif decide (r0.1 < (0 : Int)) then
   some ((-1 : Int), ())
  else Option.bind (g_lheldIntS (a0.2.2.2, r0.1)) fun r1 =>
  bif decide (r1.1 < (0 : Int)) then
   some ((-1 : Int), ())
  else some (r1.1, ()) := by kernel_rfl
/- laws.heldLedgeS -/
def c_lheldLedgeS : TC :=
 (.seq (.rg [o1 4 (.lit [.i .i64] [.int .i64 (0)])])
 (.seq (.join [⟨1, [.i .i64], false⟩] 1125899906842610 (some [⟨4, [.i .i64], false⟩]) (.seq (.rg [o1 5 (.lit [.i .i64] [.int .i64 (0)])])
 (.block 0 (.loop [⟨1, [.i .i64], false⟩, ⟨5, [.i .i64], false⟩] 1125899906842610
  (.seq (.seq (.rg [o1 6 (.copy 5),
    o1 7 (.copy 0),
    o1 8 (.len 7),
    o1 9 (.data (.bin .lss) [.t 6, .t 8])])
  (.cond (.t 9)
   .skip
   (.exit 0)))
  (.seq (.block 1 (.seq (.seq (.rg [o1 12 (.copy 0),
    o1 13 (.copy 5),
    o1 14 (.index 12 (.t 13)),
    o1 15 (.idx (.t 14)),
    o1 16 (.load 12 [(0, 4)] 0 (.t 15) 1 false),
    o1 17 (.copy 1),
    o1 18 (.data (.bin .neq) [.t 16, .t 17])])
  (.cond (.t 18)
   (.seq (.rg [o1 4 (.lit [.i .i64] [.int .i64 (-1)])])
   .ret)
   .skip))
  (.seq (.rg [o1 19 (.copy 1),
    o1 20 (.data (.bin .add) [.t 19, .c (.int .i64 (1))]),
    o1 1 (.copy 20)])
  (.seq (.seq (.rg [o1 21 (.copy 0),
    o1 22 (.copy 5),
    o1 23 (.index 21 (.t 22)),
    o1 24 (.idx (.t 23)),
    o1 25 (.load 21 [(0, 4)] 1 (.t 24) 1 false),
    o1 26 (.copy 1),
    o1 27 (.data (.bin .neq) [.t 25, .t 26])])
  (.cond (.t 27)
   (.seq (.rg [o1 4 (.lit [.i .i64] [.int .i64 (-1)])])
   .ret)
   .skip))
  (.seq (.rg [o1 28 (.copy 1),
    o1 29 (.data (.bin .add) [.t 28, .c (.int .i64 (1))]),
    o1 1 (.copy 29)])
  (.seq (.seq (.rg [o1 30 (.copy 0),
    o1 31 (.copy 5),
    o1 32 (.index 30 (.t 31)),
    o1 33 (.idx (.t 32)),
    o1 34 (.load 30 [(0, 4)] 2 (.t 33) 1 false),
    o1 35 (.copy 1),
    o1 36 (.data (.bin .neq) [.t 34, .t 35])])
  (.cond (.t 36)
   (.seq (.rg [o1 4 (.lit [.i .i64] [.int .i64 (-1)])])
   .ret)
   .skip))
  (.seq (.rg [o1 37 (.copy 1),
    o1 38 (.data (.bin .add) [.t 37, .c (.int .i64 (1))]),
    o1 1 (.copy 38)])
  (.seq (.seq (.rg [o1 39 (.copy 0),
    o1 40 (.copy 5),
    o1 41 (.index 39 (.t 40)),
    o1 42 (.idx (.t 41)),
    o1 43 (.load 39 [(0, 4)] 3 (.t 42) 1 false),
    o1 44 (.copy 1),
    o1 45 (.data (.bin .rem) [.t 44, .c (.int .i64 (3))]),
    o1 46 (.data (.bin .eql) [.t 45, .c (.int .i64 (0))]),
    o1 47 (.data (.beq true) [.t 43, .t 46])])
  (.cond (.t 47)
   (.seq (.rg [o1 4 (.lit [.i .i64] [.int .i64 (-1)])])
   .ret)
   .skip))
  (.rg [o1 48 (.copy 1),
    o1 49 (.data (.bin .add) [.t 48, .c (.int .i64 (1))]),
    o1 1 (.copy 49)])))))))))
  (.rg [o1 10 (.copy 5),
    o1 11 (.data (.bin .add) [.t 10, .c (.int .i64 (1))]),
    o1 5 (.copy 11)])))))))
 (.seq (.rg [o1 50 (.copy 1),
   o1 4 (.copy 50)])
 .ret)))
def s_lheldLedgeS : Sig := ⟨[.rd false [.sl (.own none) [.d, .d, .d, .d]], .rd false [.d]], (.one false [.d])⟩
noncomputable def E_lheldLedgeS : TEnv := envOf []
noncomputable def f_lheldLedgeS (n : Nat) : (List (Int × Int × Int × Bool)) × Int → Option ((Int) × Unit) := runFn n E_lheldLedgeS c_lheldLedgeS [[.sl [.i .i64, .i .i64, .i .i64, .b]], [.i .i64]] [.i .i64] [] [4] .no
noncomputable def g_lheldLedgeS := f_lheldLedgeS BIG
noncomputable def p_lheldLedgeS : TSp := ⟨s_lheldLedgeS, [[.sl [.i .i64, .i .i64, .i .i64, .b]], [.i .i64]], [.i .i64], [], Ou.j .no, g_lheldLedgeS⟩
theorem k_lheldLedgeS : chkW PG E_lheldLedgeS 299 s_lheldLedgeS (c_lheldLedgeS.ht 51) .no = some (c_lheldLedgeS.wc E_lheldLedgeS, [4]) := by kernel_rfl
theorem ok_lheldLedgeS : p_lheldLedgeS.Ok PG 299 := mkOk (env_nil PG) k_lheldLedgeS (by kernel_rfl)
theorem e_lheldLedgeS (n : Nat) (a0 : List (Int × Int × Int × Bool)) (a1 : Int) : f_lheldLedgeS n (a0, a1) =
  Option.bind (loopT n (X := Int × Int) (B := (Int) ⊕ (Int)) (fun self1 x0 =>
    bif decide (x0.2 < (a0.length : Int)) then
     bnd a0.length x0.2 fun n2 =>
     Option.bind a0[n2]? fun y3 =>
     bif !decide (y3.1 = x0.1) then
      some (Sum.inr (-1 : Int))
     else bnd a0.length x0.2 fun n4 =>
     Option.bind a0[n4]? fun y5 =>
     bif !decide (y5.2.1 = (IntKind.wrap .i64 (x0.1 + (1 : Int)))) then
      some (Sum.inr (-1 : Int))
     else bnd a0.length x0.2 fun n6 =>
     Option.bind a0[n6]? fun y7 =>
     bif !decide (y7.2.2.1 = (IntKind.wrap .i64 ((IntKind.wrap .i64 (x0.1 + (1 : Int))) + (1 : Int)))) then
      some (Sum.inr (-1 : Int))
     else bnd a0.length x0.2 fun n8 =>
     Option.bind a0[n8]? fun y9 =>
     bif decide ((3 : Int) = 0) then
      none
     else bif !(y9.2.2.2 == (decide ((Int.tmod (IntKind.wrap .i64 ((IntKind.wrap .i64 ((IntKind.wrap .i64 (x0.1 + (1 : Int))) + (1 : Int))) + (1 : Int))) (3 : Int)) = (0 : Int)))) then
      some (Sum.inr (-1 : Int))
     else self1 (IntKind.wrap .i64 ((IntKind.wrap .i64 ((IntKind.wrap .i64 ((IntKind.wrap .i64 (x0.1 + (1 : Int))) + (1 : Int))) + (1 : Int))) + (1 : Int)), IntKind.wrap .i64 (x0.2 + (1 : Int)))
    else some (Sum.inl x0.1)) (a1, (0 : Int)) : Option ((Int) ⊕ (Int))) fun y => match y with
  | .inl x10 =>
   some (x10, ())
  | .inr x10 =>
   some (x10, ()) := by kernel_rfl
/- laws.heldWeb -/
def c_lheldWeb : TC :=
 (.seq (.rg [o1 2 (.a (.t 0)),
   o1 4 (.lit [.i .i64] [.int .i64 (0)])])
 (.seq (.rg [o1 5 (.idx .nil),
   o1 6 (.load 2 [] 1 (.t 5) 1 false),
   o1 7 (.copy 1),
   o3 8 299 [.t 6, .t 7],
   o1 1 (.copy 8)])
 (.seq (.seq (.rg [o1 9 (.copy 1),
   o1 10 (.data (.bin .lss) [.t 9, .c (.int .i64 (0))])])
 (.cond (.t 10)
  (.seq (.rg [o1 4 (.lit [.i .i64] [.int .i64 (-1)])])
  .ret)
  .skip))
 (.seq (.rg [o1 11 (.copy 1),
   o1 4 (.copy 11)])
 .ret))))
def s_lheldWeb : Sig := ⟨[.rd true [.d, .sl (.own none) [.d, .d, .d, .d]], .rd false [.d]], (.one false [.d])⟩
noncomputable def E_lheldWeb : TEnv := envOf [(299, p_lheldLedgeS)]
noncomputable def f_lheldWeb (n : Nat) : (Int × List (Int × Int × Int × Bool)) × Int → Option ((Int) × Unit) := runFn n E_lheldWeb c_lheldWeb [[.i .i64, .sl [.i .i64, .i .i64, .i .i64, .b]], [.i .i64]] [.i .i64] [] [4] .no
noncomputable def g_lheldWeb := f_lheldWeb BIG
noncomputable def p_lheldWeb : TSp := ⟨s_lheldWeb, [[.i .i64, .sl [.i .i64, .i .i64, .i .i64, .b]], [.i .i64]], [.i .i64], [], Ou.j .no, g_lheldWeb⟩
theorem k_lheldWeb : chkW PG E_lheldWeb 183 s_lheldWeb (c_lheldWeb.ht 12) .no = some (c_lheldWeb.wc E_lheldWeb, [4]) := by kernel_rfl
theorem ok_lheldWeb : p_lheldWeb.Ok PG 183 := mkOk (env_cons ok_lheldLedgeS (env_nil PG)) k_lheldWeb (by kernel_rfl)
theorem e_lheldWeb (n : Nat) (a0 : Int × List (Int × Int × Int × Bool)) (a1 : Int) : f_lheldWeb n (a0, a1) =
  Option.bind (g_lheldLedgeS (a0.2, a1)) fun r0 =>
  bif decide (r0.1 < (0 : Int)) then
   some ((-1 : Int), ())
  else some (r0.1, ()) := by kernel_rfl
/- laws.heldShard -/
def c_lheldShard : TC :=
 (.seq (.rg [o1 2 (.a (.t 0)),
   o1 4 (.lit [.i .i64] [.int .i64 (0)])])
 (.seq (.rg [o1 5 (.idx .nil),
   o1 6 (.load 2 [] 1 (.t 5) 2 false),
   o1 7 (.copy 1),
   o3 8 183 [.t 6, .t 7],
   o1 1 (.copy 8)])
 (.seq (.seq (.rg [o1 9 (.copy 1),
   o1 10 (.data (.bin .lss) [.t 9, .c (.int .i64 (0))])])
 (.cond (.t 10)
  (.seq (.rg [o1 4 (.lit [.i .i64] [.int .i64 (-1)])])
  .ret)
  .skip))
 (.seq (.rg [o1 11 (.idx .nil),
   o1 12 (.load 2 [] 3 (.t 11) 4 false),
   o1 13 (.copy 1),
   o3 14 75 [.t 12, .t 13],
   o1 1 (.copy 14)])
 (.seq (.seq (.rg [o1 15 (.copy 1),
   o1 16 (.data (.bin .lss) [.t 15, .c (.int .i64 (0))])])
 (.cond (.t 16)
  (.seq (.rg [o1 4 (.lit [.i .i64] [.int .i64 (-1)])])
  .ret)
  .skip))
 (.seq (.rg [o1 17 (.copy 1),
   o1 4 (.copy 17)])
 .ret))))))
def s_lheldShard : Sig := ⟨[.rd true [.d, .d, .sl (.own none) [.d, .d, .d, .d], .d, .d, .sl (.own none) [.d, .d], .sl (.own none) [.d]], .rd false [.d]], (.one false [.d])⟩
noncomputable def E_lheldShard : TEnv := envOf [(183, p_lheldWeb), (75, p_lheldAnswer)]
noncomputable def f_lheldShard (n : Nat) : (Int × Int × List (Int × Int × Int × Bool) × Int × Bool × List (Int × Int) × List (Int)) × Int → Option ((Int) × Unit) := runFn n E_lheldShard c_lheldShard [[.i .i64, .i .i64, .sl [.i .i64, .i .i64, .i .i64, .b], .i .i64, .b, .sl [.i .i64, .i .i64], .sl [.i .i64]], [.i .i64]] [.i .i64] [] [4] .no
noncomputable def g_lheldShard := f_lheldShard BIG
noncomputable def p_lheldShard : TSp := ⟨s_lheldShard, [[.i .i64, .i .i64, .sl [.i .i64, .i .i64, .i .i64, .b], .i .i64, .b, .sl [.i .i64, .i .i64], .sl [.i .i64]], [.i .i64]], [.i .i64], [], Ou.j .no, g_lheldShard⟩
theorem k_lheldShard : chkW PG E_lheldShard 54 s_lheldShard (c_lheldShard.ht 18) .no = some (c_lheldShard.wc E_lheldShard, [4]) := by kernel_rfl
theorem ok_lheldShard : p_lheldShard.Ok PG 54 := mkOk (env_cons ok_lheldWeb (env_cons ok_lheldAnswer (env_nil PG))) k_lheldShard (by kernel_rfl)
theorem e_lheldShard (n : Nat) (a0 : Int × Int × List (Int × Int × Int × Bool) × Int × Bool × List (Int × Int) × List (Int)) (a1 : Int) : f_lheldShard n (a0, a1) =
  Option.bind (g_lheldWeb ((a0.2.1, a0.2.2.1), a1)) fun r0 =>
  bif decide (r0.1 < (0 : Int)) then
   some ((-1 : Int), ())
  else Option.bind (g_lheldAnswer (a0.2.2.2, r0.1)) fun r1 =>
  bif decide (r1.1 < (0 : Int)) then
   some ((-1 : Int), ())
  else some (r1.1, ()) := by kernel_rfl
end Go.Fw
