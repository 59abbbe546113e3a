/- The given functions, as what they compute; each is shown to be what the code does. No conditions. -/
import Derived.Test.YtjjfihpihnifcaaG5
import Derived.Test.YtjjfihpihnifcaaProg
set_option linter.unusedVariables false
set_option linter.unusedSimpArgs false
namespace Go.Fw
noncomputable abbrev PG := Go.Proofs.Try.prog
def o2 (d : Nat) (e : ED) (j : Nat) (b : Bool) : TO := ⟨false, [], [], .det 1 e, [d], some d, some (j, b)⟩
def o3 (d : Nat) (K : FuncId) (gets : List OY) : TO := ⟨false, [], [], .call 1 K gets .no, [d], some d, none⟩
def o4 (n : Nat) (ds : List Nat) (e : ED) : TO := ⟨false, [], [], .det n e, ds, none, none⟩
end Go.Fw
namespace Go.Fw
/- laws.szLedgeS -/
def c_lszLedgeS : TC :=
 (.seq (.rg [o1 4 (.lit [.i .i64] [.int .i64 (0)])])
 (.seq (.rg [o1 5 (.copy 1),
   o1 6 (.copy 0),
   o1 7 (.len 6),
   o1 8 (.data (.bin .sub) [.t 5, .t 7]),
   o1 1 (.copy 8)])
 (.seq (.seq (.rg [o1 9 (.copy 1),
   o1 10 (.data (.bin .lss) [.t 9, .c (.int .i64 (0))])])
 (.cond (.t 10)
  (.seq (.rg [o1 4 (.lit [.i .i64] [.int .i64 (-1)])])
  .ret)
  .skip))
 (.seq (.rg [o1 11 (.copy 1),
   o1 4 (.copy 11)])
 .ret))))
def s_lszLedgeS : Sig := ⟨[.rd false [.sl (.own none) [.d, .d, .d, .d]], .rd false [.d]], (.one false [.d])⟩
noncomputable def E_lszLedgeS : TEnv := envOf []
noncomputable def f_lszLedgeS (n : Nat) : (List (Int × Int × Int × Bool)) × Int → Option ((Int) × Unit) := runFn n E_lszLedgeS c_lszLedgeS [[.sl [.i .i64, .i .i64, .i .i64, .b]], [.i .i64]] [.i .i64] [] [4] .no
noncomputable def g_lszLedgeS := f_lszLedgeS BIG
noncomputable def p_lszLedgeS : TSp := ⟨s_lszLedgeS, [[.sl [.i .i64, .i .i64, .i .i64, .b]], [.i .i64]], [.i .i64], [], Ou.j .no, g_lszLedgeS⟩
theorem k_lszLedgeS : chkW PG E_lszLedgeS 128 s_lszLedgeS (c_lszLedgeS.ht 12) .no = some (c_lszLedgeS.wc E_lszLedgeS, [4]) := by kernel_rfl
theorem ok_lszLedgeS : p_lszLedgeS.Ok PG 128 := mkOk (env_nil PG) k_lszLedgeS (by kernel_rfl)
theorem e_lszLedgeS (n : Nat) (a0 : List (Int × Int × Int × Bool)) (a1 : Int) : f_lszLedgeS n (a0, a1) =
  bif decide ((IntKind.wrap .i64 (a1 - (a0.length : Int))) < (0 : Int)) then
   some ((-1 : Int), ())
  else some (IntKind.wrap .i64 (a1 - (a0.length : Int)), ()) := by kernel_rfl
/- laws.szWeb -/
def c_lszWeb : TC :=
 (.seq (.rg [o1 2 (.a (.t 0)),
   o1 4 (.lit [.i .i64] [.int .i64 (0)])])
 (.seq (.rg [o1 5 (.idx .nil),
   o1 6 (.load 2 [] 1 (.t 5) 1 false),
   o1 7 (.copy 1),
   o3 8 128 [.t 6, .t 7],
   o1 1 (.copy 8)])
 (.seq (.seq (.rg [o1 9 (.copy 1),
   o1 10 (.data (.bin .lss) [.t 9, .c (.int .i64 (0))])])
 (.cond (.t 10)
  (.seq (.rg [o1 4 (.lit [.i .i64] [.int .i64 (-1)])])
  .ret)
  .skip))
 (.seq (.rg [o1 11 (.copy 1),
   o1 4 (.copy 11)])
 .ret))))
def s_lszWeb : Sig := ⟨[.rd true [.d, .sl (.own none) [.d, .d, .d, .d]], .rd false [.d]], (.one false [.d])⟩
noncomputable def E_lszWeb : TEnv := envOf [(128, p_lszLedgeS)]
noncomputable def f_lszWeb (n : Nat) : (Int × List (Int × Int × Int × Bool)) × Int → Option ((Int) × Unit) := runFn n E_lszWeb c_lszWeb [[.i .i64, .sl [.i .i64, .i .i64, .i .i64, .b]], [.i .i64]] [.i .i64] [] [4] .no
noncomputable def g_lszWeb := f_lszWeb BIG
noncomputable def p_lszWeb : TSp := ⟨s_lszWeb, [[.i .i64, .sl [.i .i64, .i .i64, .i .i64, .b]], [.i .i64]], [.i .i64], [], Ou.j .no, g_lszWeb⟩
theorem k_lszWeb : chkW PG E_lszWeb 85 s_lszWeb (c_lszWeb.ht 12) .no = some (c_lszWeb.wc E_lszWeb, [4]) := by kernel_rfl
theorem ok_lszWeb : p_lszWeb.Ok PG 85 := mkOk (env_cons ok_lszLedgeS (env_nil PG)) k_lszWeb (by kernel_rfl)
theorem e_lszWeb (n : Nat) (a0 : Int × List (Int × Int × Int × Bool)) (a1 : Int) : f_lszWeb n (a0, a1) =
  Option.bind (g_lszLedgeS (a0.2, a1)) fun r0 =>
  bif decide (r0.1 < (0 : Int)) then
   some ((-1 : Int), ())
  else some (r0.1, ()) := by kernel_rfl
/- laws.szEdgeS -/
def c_lszEdgeS : TC :=
 (.seq (.rg [o1 4 (.lit [.i .i64] [.int .i64 (0)])])
 (.seq (.rg [o1 5 (.copy 1),
   o1 6 (.copy 0),
   o1 7 (.len 6),
   o1 8 (.data (.bin .sub) [.t 5, .t 7]),
   o1 1 (.copy 8)])
 (.seq (.seq (.rg [o1 9 (.copy 1),
   o1 10 (.data (.bin .lss) [.t 9, .c (.int .i64 (0))])])
 (.cond (.t 10)
  (.seq (.rg [o1 4 (.lit [.i .i64] [.int .i64 (-1)])])
  .ret)
  .skip))
 (.seq (.rg [o1 11 (.copy 1),
   o1 4 (.copy 11)])
 .ret))))
def s_lszEdgeS : Sig := ⟨[.rd false [.sl (.own none) [.d, .d]], .rd false [.d]], (.one false [.d])⟩
noncomputable def E_lszEdgeS : TEnv := envOf []
noncomputable def f_lszEdgeS (n : Nat) : (List (Int × Int)) × Int → Option ((Int) × Unit) := runFn n E_lszEdgeS c_lszEdgeS [[.sl [.i .i64, .i .i64]], [.i .i64]] [.i .i64] [] [4] .no
noncomputable def g_lszEdgeS := f_lszEdgeS BIG
noncomputable def p_lszEdgeS : TSp := ⟨s_lszEdgeS, [[.sl [.i .i64, .i .i64]], [.i .i64]], [.i .i64], [], Ou.j .no, g_lszEdgeS⟩
theorem k_lszEdgeS : chkW PG E_lszEdgeS 129 s_lszEdgeS (c_lszEdgeS.ht 12) .no = some (c_lszEdgeS.wc E_lszEdgeS, [4]) := by kernel_rfl
theorem ok_lszEdgeS : p_lszEdgeS.Ok PG 129 := mkOk (env_nil PG) k_lszEdgeS (by kernel_rfl)
theorem e_lszEdgeS (n : Nat) (a0 : List (Int × Int)) (a1 : Int) : f_lszEdgeS n (a0, a1) =
  bif decide ((IntKind.wrap .i64 (a1 - (a0.length : Int))) < (0 : Int)) then
   some ((-1 : Int), ())
  else some (IntKind.wrap .i64 (a1 - (a0.length : Int)), ()) := by kernel_rfl
/- laws.szIntS -/
def c_lszIntS : TC :=
 (.seq (.rg [o1 4 (.lit [.i .i64] [.int .i64 (0)])])
 (.seq (.rg [o1 5 (.copy 1),
   o1 6 (.copy 0),
   o1 7 (.len 6),
   o1 8 (.data (.bin .sub) [.t 5, .t 7]),
   o1 1 (.copy 8)])
 (.seq (.seq (.rg [o1 9 (.copy 1),
   o1 10 (.data (.bin .lss) [.t 9, .c (.int .i64 (0))])])
 (.cond (.t 10)
  (.seq (.rg [o1 4 (.lit [.i .i64] [.int .i64 (-1)])])
  .ret)
  .skip))
 (.seq (.rg [o1 11 (.copy 1),
   o1 4 (.copy 11)])
 .ret))))
def s_lszIntS : Sig := ⟨[.rd false [.sl (.own none) [.d]], .rd false [.d]], (.one false [.d])⟩
noncomputable def E_lszIntS : TEnv := envOf []
noncomputable def f_lszIntS (n : Nat) : List (Int) × Int → Option ((Int) × Unit) := runFn n E_lszIntS c_lszIntS [[.sl [.i .i64]], [.i .i64]] [.i .i64] [] [4] .no
noncomputable def g_lszIntS := f_lszIntS BIG
noncomputable def p_lszIntS : TSp := ⟨s_lszIntS, [[.sl [.i .i64]], [.i .i64]], [.i .i64], [], Ou.j .no, g_lszIntS⟩
theorem k_lszIntS : chkW PG E_lszIntS 130 s_lszIntS (c_lszIntS.ht 12) .no = some (c_lszIntS.wc E_lszIntS, [4]) := by kernel_rfl
theorem ok_lszIntS : p_lszIntS.Ok PG 130 := mkOk (env_nil PG) k_lszIntS (by kernel_rfl)
theorem e_lszIntS (n : Nat) (a0 : List (Int)) (a1 : Int) : f_lszIntS n (a0, a1) =
  bif decide ((IntKind.wrap .i64 (a1 - (a0.length : Int))) < (0 : Int)) then
   some ((-1 : Int), ())
  else some (IntKind.wrap .i64 (a1 - (a0.length : Int)), ()) := by kernel_rfl
/- laws.szAnswer -/
def c_lszAnswer : TC :=
 (.seq (.rg [o1 2 (.a (.t 0)),
   o1 4 (.lit [.i .i64] [.int .i64 (0)])])
 (.seq (.rg [o1 5 (.idx .nil),
   o1 6 (.load 2 [] 2 (.t 5) 1 false),
   o1 7 (.copy 1),
   o3 8 129 [.t 6, .t 7],
   o1 1 (.copy 8)])
 (.seq (.seq (.rg [o1 9 (.copy 1),
   o1 10 (.data (.bin .lss) [.t 9, .c (.int .i64 (0))])])
 (.cond (.t 10)
  (.seq (.rg [o1 4 (.lit [.i .i64] [.int .i64 (-1)])])
  .ret)
  .skip))
 (.seq (.rg [o1 11 (.idx .nil),
   o1 12 (.load 2 [] 3 (.t 11) 1 false),
   o1 13 (.copy 1),
   o3 14 130 [.t 12, .t 13],
   o1 1 (.copy 14)])
 (.seq (.seq (.rg [o1 15 (.copy 1),
   o1 16 (.data (.bin .lss) [.t 15, .c (.int .i64 (0))])])
 (.cond (.t 16)
  (.seq (.rg [o1 4 (.lit [.i .i64] [.int .i64 (-1)])])
  .ret)
  .skip))
 (.seq (.rg [o1 17 (.copy 1),
   o1 4 (.copy 17)])
 .ret))))))
def s_lszAnswer : Sig := ⟨[.rd true [.d, .d, .sl (.own none) [.d, .d], .sl (.own none) [.d]], .rd false [.d]], (.one false [.d])⟩
noncomputable def E_lszAnswer : TEnv := envOf [(129, p_lszEdgeS), (130, p_lszIntS)]
noncomputable def f_lszAnswer (n : Nat) : (Int × Bool × List (Int × Int) × List (Int)) × Int → Option ((Int) × Unit) := runFn n E_lszAnswer c_lszAnswer [[.i .i64, .b, .sl [.i .i64, .i .i64], .sl [.i .i64]], [.i .i64]] [.i .i64] [] [4] .no
noncomputable def g_lszAnswer := f_lszAnswer BIG
noncomputable def p_lszAnswer : TSp := ⟨s_lszAnswer, [[.i .i64, .b, .sl [.i .i64, .i .i64], .sl [.i .i64]], [.i .i64]], [.i .i64], [], Ou.j .no, g_lszAnswer⟩
theorem k_lszAnswer : chkW PG E_lszAnswer 86 s_lszAnswer (c_lszAnswer.ht 18) .no = some (c_lszAnswer.wc E_lszAnswer, [4]) := by kernel_rfl
theorem ok_lszAnswer : p_lszAnswer.Ok PG 86 := mkOk (env_cons ok_lszEdgeS (env_cons ok_lszIntS (env_nil PG))) k_lszAnswer (by kernel_rfl)
theorem e_lszAnswer (n : Nat) (a0 : Int × Bool × List (Int × Int) × List (Int)) (a1 : Int) : f_lszAnswer n (a0, a1) =
  Option.bind (g_lszEdgeS (a0.2.2.1, a1)) fun r0 =>
  bif decide (r0.1 < (0 : Int)) then
   some ((-1 : Int), ())
  else Option.bind (g_lszIntS (a0.2.2.2, r0.1)) fun r1 =>
  bif decide (r1.1 < (0 : Int)) then
   some ((-1 : Int), ())
  else some (r1.1, ()) := by kernel_rfl
/- laws.szShard -/
def c_lszShard : TC :=
 (.seq (.rg [o1 2 (.a (.t 0)),
   o1 4 (.lit [.i .i64] [.int .i64 (0)])])
 (.seq (.rg [o1 5 (.idx .nil),
   o1 6 (.load 2 [] 1 (.t 5) 2 false),
   o1 7 (.copy 1),
   o3 8 85 [.t 6, .t 7],
   o1 1 (.copy 8)])
 (.seq (.seq (.rg [o1 9 (.copy 1),
   o1 10 (.data (.bin .lss) [.t 9, .c (.int .i64 (0))])])
 (.cond (.t 10)
  (.seq (.rg [o1 4 (.lit [.i .i64] [.int .i64 (-1)])])
  .ret)
  .skip))
 (.seq (.rg [o1 11 (.idx .nil),
   o1 12 (.load 2 [] 3 (.t 11) 4 false),
   o1 13 (.copy 1),
   o3 14 86 [.t 12, .t 13],
   o1 1 (.copy 14)])
 (.seq (.seq (.rg [o1 15 (.copy 1),
   o1 16 (.data (.bin .lss) [.t 15, .c (.int .i64 (0))])])
 (.cond (.t 16)
  (.seq (.rg [o1 4 (.lit [.i .i64] [.int .i64 (-1)])])
  .ret)
  .skip))
 (.seq (.rg [o1 17 (.copy 1),
   o1 4 (.copy 17)])
 .ret))))))
def s_lszShard : Sig := ⟨[.rd true [.d, .d, .sl (.own none) [.d, .d, .d, .d], .d, .d, .sl (.own none) [.d, .d], .sl (.own none) [.d]], .rd false [.d]], (.one false [.d])⟩
noncomputable def E_lszShard : TEnv := envOf [(85, p_lszWeb), (86, p_lszAnswer)]
noncomputable def f_lszShard (n : Nat) : (Int × Int × List (Int × Int × Int × Bool) × Int × Bool × List (Int × Int) × List (Int)) × Int → Option ((Int) × Unit) := runFn n E_lszShard c_lszShard [[.i .i64, .i .i64, .sl [.i .i64, .i .i64, .i .i64, .b], .i .i64, .b, .sl [.i .i64, .i .i64], .sl [.i .i64]], [.i .i64]] [.i .i64] [] [4] .no
noncomputable def g_lszShard := f_lszShard BIG
noncomputable def p_lszShard : TSp := ⟨s_lszShard, [[.i .i64, .i .i64, .sl [.i .i64, .i .i64, .i .i64, .b], .i .i64, .b, .sl [.i .i64, .i .i64], .sl [.i .i64]], [.i .i64]], [.i .i64], [], Ou.j .no, g_lszShard⟩
theorem k_lszShard : chkW PG E_lszShard 34 s_lszShard (c_lszShard.ht 18) .no = some (c_lszShard.wc E_lszShard, [4]) := by kernel_rfl
theorem ok_lszShard : p_lszShard.Ok PG 34 := mkOk (env_cons ok_lszWeb (env_cons ok_lszAnswer (env_nil PG))) k_lszShard (by kernel_rfl)
theorem e_lszShard (n : Nat) (a0 : Int × Int × List (Int × Int × Int × Bool) × Int × Bool × List (Int × Int) × List (Int)) (a1 : Int) : f_lszShard n (a0, a1) =
  Option.bind (g_lszWeb ((a0.2.1, a0.2.2.1), a1)) fun r0 =>
  bif decide (r0.1 < (0 : Int)) then
   some ((-1 : Int), ())
  else Option.bind (g_lszAnswer (a0.2.2.2, r0.1)) fun r1 =>
  bif decide (r1.1 < (0 : Int)) then
   some ((-1 : Int), ())
  else some (r1.1, ()) := by kernel_rfl
/- laws.toLedge -/
def c_ltoLedge : TC :=
 (.seq (.rg [o1 1 (.a (.t 0)),
   ⟨false, [], [], .det 2 (.a (.c [.i .i64, .i .i64, .i .i64, .b] [.int .i64 (0), .int .i64 (0), .int .i64 (0), .bool false])), [2, 1000000001], (some 2), none⟩])
 (.seq (.rg [⟨false, [], [], .det 2 (.a (.c [.i .i64, .i .i64, .i .i64, .b] [.int .i64 (0), .int .i64 (0), .int .i64 (0), .bool false])), [3, 1000000001], (some 3), none⟩])
 (.seq (.rg [o1 4 (.idx .nil),
   o1 5 (.load 1 [] 0 (.t 4) 1 false),
   o1 6 (.idx .nil),
   o4 1 [3] (.store 3 [] 0 (.t 6) (.t 5))])
 (.seq (.rg [o1 7 (.idx .nil),
   o1 8 (.load 1 [] 1 (.t 7) 1 false),
   o1 9 (.idx .nil),
   o4 1 [3] (.store 3 [] 1 (.t 9) (.t 8))])
 (.seq (.rg [o1 10 (.idx .nil),
   o1 11 (.load 1 [] 2 (.t 10) 1 false),
   o1 12 (.idx .nil),
   o4 1 [3] (.store 3 [] 2 (.t 12) (.t 11))])
 (.seq (.rg [o1 13 (.idx .nil),
   o1 14 (.load 1 [] 3 (.t 13) 1 false),
   o1 15 (.idx .nil),
   o4 1 [3] (.store 3 [] 3 (.t 15) (.t 14))])
 (.seq (.rg [o1 16 (.load 3 [] 0 .nil 4 false),
   o4 1 [2] (.store 2 [] 0 .nil (.t 16))])
 .ret)))))))
def s_ltoLedge : Sig := ⟨[.rd true [.d, .d, .d, .d]], (.one true [.d, .d, .d, .d])⟩
noncomputable def E_ltoLedge : TEnv := envOf []
noncomputable def f_ltoLedge (n : Nat) : (Int × Int × Int × Bool) → Option ((Int × Int × Int × Bool) × Unit) := runFn n E_ltoLedge c_ltoLedge [[.i .i64, .i .i64, .i .i64, .b]] [.i .i64, .i .i64, .i .i64, .b] [] [2] .no
noncomputable def g_ltoLedge := f_ltoLedge BIG
noncomputable def p_ltoLedge : TSp := ⟨s_ltoLedge, [[.i .i64, .i .i64, .i .i64, .b]], [.i .i64, .i .i64, .i .i64, .b], [], Ou.j .no, g_ltoLedge⟩
theorem k_ltoLedge : chkW PG E_ltoLedge 153 s_ltoLedge (c_ltoLedge.ht 17) .no = some (c_ltoLedge.wc E_ltoLedge, [2]) := by kernel_rfl
theorem ok_ltoLedge : p_ltoLedge.Ok PG 153 := mkOk (env_nil PG) k_ltoLedge (by kernel_rfl)
theorem e_ltoLedge (n : Nat) (a0 : Int × Int × Int × Bool) : f_ltoLedge n a0 =
  some (a0, ()) := by kernel_rfl
/- laws.toLedgeS -/
def c_ltoLedgeS : TC :=
 (.seq (.rg [o1 2 (.lit [.sl [.i .i64, .i .i64, .i .i64, .b]] [.slice none 0 0])])
 (.seq (.rg [o1 5 (.copy 0),
   o1 6 (.len 5),
   o1 7 (.make (.t 6) [.i .i64, .i .i64, .i .i64, .b]),
   ⟨false, [], [], .det 2 (.copy 7), [3, 7], (some 3), none⟩])
 (.seq (.join [⟨3, [.sl [.i .i64, .i .i64, .i .i64, .b]], false⟩] 4194072 none (.seq (.rg [o1 4 (.lit [.i .i64] [.int .i64 (0)])])
 (.block 0 (.loop [⟨3, [.sl [.i .i64, .i .i64, .i .i64, .b]], false⟩, ⟨4, [.i .i64], false⟩] 4194072
  (.seq (.seq (.rg [o1 8 (.copy 4),
    o1 9 (.copy 0),
    o1 10 (.len 9),
    o1 11 (.data (.bin .lss) [.t 8, .t 10])])
  (.cond (.t 11)
   .skip
   (.exit 0)))
  (.seq (.block 1 (.rg [⟨true, [], [], .det 1 (.copy 3), [14], (some 14), none⟩,
    o1 15 (.copy 4),
    o1 16 (.copy 0),
    o1 17 (.copy 4),
    o1 18 (.index 16 (.t 17)),
    o1 19 (.load 16 [(0, 4)] 0 (.t 18) 4 false),
    o3 20 153 [.t 19],
    o1 21 (.index 14 (.t 15)),
    o4 1 [3, 14] (.store 3 [(0, 4)] 0 (.t 21) (.t 20))]))
  (.rg [o1 12 (.copy 4),
    o1 13 (.data (.bin .add) [.t 12, .c (.int .i64 (1))]),
    o1 4 (.copy 13)])))))))
 (.seq (.rg [⟨false, [], [], .det 2 (.copy 3), [22, 3], (some 22), none⟩,
   ⟨false, [], [], .det 2 (.copy 22), [2, 22], (some 2), none⟩])
 .ret))))
def s_ltoLedgeS : Sig := ⟨[.rd false [.sl (.own none) [.d, .d, .d, .d]]], (.one false [.sl (.own none) [.d, .d, .d, .d]])⟩
noncomputable def E_ltoLedgeS : TEnv := envOf [(153, p_ltoLedge)]
noncomputable def f_ltoLedgeS (n : Nat) : (List (Int × Int × Int × Bool)) → Option ((List (Int × Int × Int × Bool)) × Unit) := runFn n E_ltoLedgeS c_ltoLedgeS [[.sl [.i .i64, .i .i64, .i .i64, .b]]] [.sl [.i .i64, .i .i64, .i .i64, .b]] [] [2] .no
noncomputable def g_ltoLedgeS := f_ltoLedgeS BIG
noncomputable def p_ltoLedgeS : TSp := ⟨s_ltoLedgeS, [[.sl [.i .i64, .i .i64, .i .i64, .b]]], [.sl [.i .i64, .i .i64, .i .i64, .b]], [], Ou.j .no, g_ltoLedgeS⟩
theorem k_ltoLedgeS : chkW PG E_ltoLedgeS 136 s_ltoLedgeS (c_ltoLedgeS.ht 23) .no = some (c_ltoLedgeS.wc E_ltoLedgeS, [2]) := by kernel_rfl
theorem ok_ltoLedgeS : p_ltoLedgeS.Ok PG 136 := mkOk (env_cons ok_ltoLedge (env_nil PG)) k_ltoLedgeS (by kernel_rfl)
theorem e_ltoLedgeS (n : Nat) (a0 : List (Int × Int × Int × Bool)) : f_ltoLedgeS n a0 =
  bif decide (0 ≤ (a0.length : Int)) then
   bif decide ((Int.toNat (a0.length : Int)) ≤ 4294967296) then
    Option.bind (loopT n (X := (List (Int × Int × Int × Bool)) × Int) (B := (List (Int × Int × Int × Bool))) (fun self1 x0 =>
      bif decide (x0.2 < (a0.length : Int)) then
       bnd a0.length x0.2 fun n2 =>
       Option.bind a0[n2]? fun y3 =>
       Option.bind (g_ltoLedge y3) fun r4 =>
       bnd x0.1.length x0.2 fun n5 =>
       Option.bind x0.1[n5]? fun y6 =>
       self1 (x0.1.set n5 r4.1, IntKind.wrap .i64 (x0.2 + (1 : Int)))
      else some x0.1) (List.replicate (Int.toNat (a0.length : Int)) ((0 : Int), (0 : Int), (0 : Int), false), (0 : Int)) : Option ((List (Int × Int × Int × Bool)))) fun x7 =>
    some (x7, ())
   else none
  else none := by kernel_rfl
/- laws.toWeb -/
def c_ltoWeb : TC :=
 (.seq (.rg [o1 1 (.a (.t 0)),
   ⟨false, [], [], .det 2 (.a (.c [.i .i64, .sl [.i .i64, .i .i64, .i .i64, .b]] [.int .i64 (0), .slice none 0 0])), [2, 1000000001], (some 2), none⟩])
 (.seq (.rg [⟨false, [], [], .det 2 (.a (.c [.i .i64, .sl [.i .i64, .i .i64, .i .i64, .b]] [.int .i64 (0), .slice none 0 0])), [3, 1000000001], (some 3), none⟩])
 (.seq (.rg [o1 4 (.idx .nil),
   o1 5 (.load 1 [] 0 (.t 4) 1 false),
   o1 6 (.idx .nil),
   o4 1 [3] (.store 3 [] 0 (.t 6) (.t 5))])
 (.seq (.rg [o1 7 (.idx .nil),
   o1 8 (.load 1 [] 1 (.t 7) 1 false),
   o3 9 136 [.t 8],
   o1 10 (.idx .nil),
   o4 2 [3, 9] (.store 3 [] 1 (.t 10) (.t 9))])
 (.seq (.rg [o1 11 (.load 3 [] 0 .nil 2 true),
   ⟨false, [11], [], .det 2 (.store 2 [] 0 .nil (.t 11)), [2, 11, 11, 3], none, none⟩])
 .ret)))))
def s_ltoWeb : Sig := ⟨[.rd true [.d, .sl (.own none) [.d, .d, .d, .d]]], (.one true [.d, .sl (.own none) [.d, .d, .d, .d]])⟩
noncomputable def E_ltoWeb : TEnv := envOf [(136, p_ltoLedgeS)]
noncomputable def f_ltoWeb (n : Nat) : (Int × List (Int × Int × Int × Bool)) → Option ((Int × List (Int × Int × Int × Bool)) × Unit) := runFn n E_ltoWeb c_ltoWeb [[.i .i64, .sl [.i .i64, .i .i64, .i .i64, .b]]] [.i .i64, .sl [.i .i64, .i .i64, .i .i64, .b]] [] [2] .no
noncomputable def g_ltoWeb := f_ltoWeb BIG
noncomputable def p_ltoWeb : TSp := ⟨s_ltoWeb, [[.i .i64, .sl [.i .i64, .i .i64, .i .i64, .b]]], [.i .i64, .sl [.i .i64, .i .i64, .i .i64, .b]], [], Ou.j .no, g_ltoWeb⟩
theorem k_ltoWeb : chkW PG E_ltoWeb 91 s_ltoWeb (c_ltoWeb.ht 12) .no = some (c_ltoWeb.wc E_ltoWeb, [2]) := by kernel_rfl
theorem ok_ltoWeb : p_ltoWeb.Ok PG 91 := mkOk (env_cons ok_ltoLedgeS (env_nil PG)) k_ltoWeb (by kernel_rfl)
theorem e_ltoWeb (n : Nat) (a0 : Int × List (Int × Int × Int × Bool)) : f_ltoWeb n a0 =
  Option.bind (g_ltoLedgeS a0.2) fun r0 =>
  some ((a0.1, r0.1), ()) := by kernel_rfl
/- laws.toEdge -/
def c_ltoEdge : TC :=
 (.seq (.rg [o1 1 (.a (.t 0)),
   ⟨false, [], [], .det 2 (.a (.c [.i .i64, .i .i64] [.int .i64 (0), .int .i64 (0)])), [2, 1000000001], (some 2), none⟩])
 (.seq (.rg [⟨false, [], [], .det 2 (.a (.c [.i .i64, .i .i64] [.int .i64 (0), .int .i64 (0)])), [3, 1000000001], (some 3), none⟩])
 (.seq (.rg [o1 4 (.idx .nil),
   o1 5 (.load 1 [] 0 (.t 4) 1 false),
   o1 6 (.idx .nil),
   o4 1 [3] (.store 3 [] 0 (.t 6) (.t 5))])
 (.seq (.rg [o1 7 (.idx .nil),
   o1 8 (.load 1 [] 1 (.t 7) 1 false),
   o1 9 (.idx .nil),
   o4 1 [3] (.store 3 [] 1 (.t 9) (.t 8))])
 (.seq (.rg [o1 10 (.load 3 [] 0 .nil 2 false),
   o4 1 [2] (.store 2 [] 0 .nil (.t 10))])
 .ret)))))
def s_ltoEdge : Sig := ⟨[.rd true [.d, .d]], (.one true [.d, .d])⟩
noncomputable def E_ltoEdge : TEnv := envOf []
noncomputable def f_ltoEdge (n : Nat) : (Int × Int) → Option ((Int × Int) × Unit) := runFn n E_ltoEdge c_ltoEdge [[.i .i64, .i .i64]] [.i .i64, .i .i64] [] [2] .no
noncomputable def g_ltoEdge := f_ltoEdge BIG
noncomputable def p_ltoEdge : TSp := ⟨s_ltoEdge, [[.i .i64, .i .i64]], [.i .i64, .i .i64], [], Ou.j .no, g_ltoEdge⟩
theorem k_ltoEdge : chkW PG E_ltoEdge 154 s_ltoEdge (c_ltoEdge.ht 11) .no = some (c_ltoEdge.wc E_ltoEdge, [2]) := by kernel_rfl
theorem ok_ltoEdge : p_ltoEdge.Ok PG 154 := mkOk (env_nil PG) k_ltoEdge (by kernel_rfl)
theorem e_ltoEdge (n : Nat) (a0 : Int × Int) : f_ltoEdge n a0 =
  some (a0, ()) := by kernel_rfl
/- laws.toEdgeS -/
def c_ltoEdgeS : TC :=
 (.seq (.rg [o1 2 (.lit [.sl [.i .i64, .i .i64]] [.slice none 0 0])])
 (.seq (.rg [o1 5 (.copy 0),
   o1 6 (.len 5),
   o1 7 (.make (.t 6) [.i .i64, .i .i64]),
   ⟨false, [], [], .det 2 (.copy 7), [3, 7], (some 3), none⟩])
 (.seq (.join [⟨3, [.sl [.i .i64, .i .i64]], false⟩] 4194072 none (.seq (.rg [o1 4 (.lit [.i .i64] [.int .i64 (0)])])
 (.block 0 (.loop [⟨3, [.sl [.i .i64, .i .i64]], false⟩, ⟨4, [.i .i64], false⟩] 4194072
  (.seq (.seq (.rg [o1 8 (.copy 4),
    o1 9 (.copy 0),
    o1 10 (.len 9),
    o1 11 (.data (.bin .lss) [.t 8, .t 10])])
  (.cond (.t 11)
   .skip
   (.exit 0)))
  (.seq (.block 1 (.rg [⟨true, [], [], .det 1 (.copy 3), [14], (some 14), none⟩,
    o1 15 (.copy 4),
    o1 16 (.copy 0),
    o1 17 (.copy 4),
    o1 18 (.index 16 (.t 17)),
    o1 19 (.load 16 [(0, 2)] 0 (.t 18) 2 false),
    o3 20 154 [.t 19],
    o1 21 (.index 14 (.t 15)),
    o4 1 [3, 14] (.store 3 [(0, 2)] 0 (.t 21) (.t 20))]))
  (.rg [o1 12 (.copy 4),
    o1 13 (.data (.bin .add) [.t 12, .c (.int .i64 (1))]),
    o1 4 (.copy 13)])))))))
 (.seq (.rg [⟨false, [], [], .det 2 (.copy 3), [22, 3], (some 22), none⟩,
   ⟨false, [], [], .det 2 (.copy 22), [2, 22], (some 2), none⟩])
 .ret))))
def s_ltoEdgeS : Sig := ⟨[.rd false [.sl (.own none) [.d, .d]]], (.one false [.sl (.own none) [.d, .d]])⟩
noncomputable def E_ltoEdgeS : TEnv := envOf [(154, p_ltoEdge)]
noncomputable def f_ltoEdgeS (n : Nat) : (List (Int × Int)) → Option ((List (Int × Int)) × Unit) := runFn n E_ltoEdgeS c_ltoEdgeS [[.sl [.i .i64, .i .i64]]] [.sl [.i .i64, .i .i64]] [] [2] .no
noncomputable def g_ltoEdgeS := f_ltoEdgeS BIG
noncomputable def p_ltoEdgeS : TSp := ⟨s_ltoEdgeS, [[.sl [.i .i64, .i .i64]]], [.sl [.i .i64, .i .i64]], [], Ou.j .no, g_ltoEdgeS⟩
theorem k_ltoEdgeS : chkW PG E_ltoEdgeS 137 s_ltoEdgeS (c_ltoEdgeS.ht 23) .no = some (c_ltoEdgeS.wc E_ltoEdgeS, [2]) := by kernel_rfl
theorem ok_ltoEdgeS : p_ltoEdgeS.Ok PG 137 := mkOk (env_cons ok_ltoEdge (env_nil PG)) k_ltoEdgeS (by kernel_rfl)
theorem e_ltoEdgeS (n : Nat) (a0 : List (Int × Int)) : f_ltoEdgeS n a0 =
  bif decide (0 ≤ (a0.length : Int)) then
   bif decide ((Int.toNat (a0.length : Int)) ≤ 4294967296) then
    Option.bind (loopT n (X := (List (Int × Int)) × Int) (B := (List (Int × Int))) (fun self1 x0 =>
      bif decide (x0.2 < (a0.length : Int)) then
       bnd a0.length x0.2 fun n2 =>
       Option.bind a0[n2]? fun y3 =>
       Option.bind (g_ltoEdge y3) fun r4 =>
       bnd x0.1.length x0.2 fun n5 =>
       Option.bind x0.1[n5]? fun y6 =>
       self1 (x0.1.set n5 r4.1, IntKind.wrap .i64 (x0.2 + (1 : Int)))
      else some x0.1) (List.replicate (Int.toNat (a0.length : Int)) ((0 : Int), (0 : Int)), (0 : Int)) : Option ((List (Int × Int)))) fun x7 =>
    some (x7, ())
   else none
  else none := by kernel_rfl
/- laws.toIntS -/
def c_ltoIntS : TC :=
 (.seq (.rg [o1 2 (.lit [.sl [.i .i64]] [.slice none 0 0])])
 (.seq (.rg [o1 5 (.copy 0),
   o1 6 (.len 5),
   o1 7 (.make (.t 6) [.i .i64]),
   ⟨false, [], [], .det 2 (.copy 7), [3, 7], (some 3), none⟩])
 (.seq (.join [⟨3, [.sl [.i .i64]], false⟩] 2096920 none (.seq (.rg [o1 4 (.lit [.i .i64] [.int .i64 (0)])])
 (.block 0 (.loop [⟨3, [.sl [.i .i64]], false⟩, ⟨4, [.i .i64], false⟩] 2096920
  (.seq (.seq (.rg [o1 8 (.copy 4),
    o1 9 (.copy 0),
    o1 10 (.len 9),
    o1 11 (.data (.bin .lss) [.t 8, .t 10])])
  (.cond (.t 11)
   .skip
   (.exit 0)))
  (.seq (.block 1 (.rg [⟨true, [], [], .det 1 (.copy 3), [14], (some 14), none⟩,
    o1 15 (.copy 4),
    o1 16 (.copy 0),
    o1 17 (.copy 4),
    o1 18 (.index 16 (.t 17)),
    o1 19 (.load 16 [(0, 1)] 0 (.t 18) 1 false),
    o1 20 (.index 14 (.t 15)),
    o4 1 [3, 14] (.store 3 [(0, 1)] 0 (.t 20) (.t 19))]))
  (.rg [o1 12 (.copy 4),
    o1 13 (.data (.bin .add) [.t 12, .c (.int .i64 (1))]),
    o1 4 (.copy 13)])))))))
 (.seq (.rg [⟨false, [], [], .det 2 (.copy 3), [21, 3], (some 21), none⟩,
   ⟨false, [], [], .det 2 (.copy 21), [2, 21], (some 2), none⟩])
 .ret))))
def s_ltoIntS : Sig := ⟨[.rd false [.sl (.own none) [.d]]], (.one false [.sl (.own none) [.d]])⟩
noncomputable def E_ltoIntS : TEnv := envOf []
noncomputable def f_ltoIntS (n : Nat) : List (Int) → Option ((List (Int)) × Unit) := runFn n E_ltoIntS c_ltoIntS [[.sl [.i .i64]]] [.sl [.i .i64]] [] [2] .no
noncomputable def g_ltoIntS := f_ltoIntS BIG
noncomputable def p_ltoIntS : TSp := ⟨s_ltoIntS, [[.sl [.i .i64]]], [.sl [.i .i64]], [], Ou.j .no, g_ltoIntS⟩
theorem k_ltoIntS : chkW PG E_ltoIntS 138 s_ltoIntS (c_ltoIntS.ht 22) .no = some (c_ltoIntS.wc E_ltoIntS, [2]) := by kernel_rfl
theorem ok_ltoIntS : p_ltoIntS.Ok PG 138 := mkOk (env_nil PG) k_ltoIntS (by kernel_rfl)
theorem e_ltoIntS (n : Nat) (a0 : List (Int)) : f_ltoIntS n a0 =
  bif decide (0 ≤ (a0.length : Int)) then
   bif decide ((Int.toNat (a0.length : Int)) ≤ 4294967296) then
    Option.bind (loopT n (X := (List (Int)) × Int) (B := (List (Int))) (fun self1 x0 =>
      bif decide (x0.2 < (a0.length : Int)) then
       bnd a0.length x0.2 fun n2 =>
       Option.bind a0[n2]? fun y3 =>
       bnd x0.1.length x0.2 fun n4 =>
       Option.bind x0.1[n4]? fun y5 =>
       self1 (x0.1.set n4 y3, IntKind.wrap .i64 (x0.2 + (1 : Int)))
      else some x0.1) (List.replicate (Int.toNat (a0.length : Int)) (0 : Int), (0 : Int)) : Option ((List (Int)))) fun x6 =>
    some (x6, ())
   else none
  else none := by kernel_rfl
/- laws.toAnswer -/
def c_ltoAnswer : TC :=
 (.seq (.rg [o1 1 (.a (.t 0)),
   ⟨false, [], [], .det 2 (.a (.c [.i .i64, .b, .sl [.i .i64, .i .i64], .sl [.i .i64]] [.int .i64 (0), .bool false, .slice none 0 0, .slice none 0 0])), [2, 1000000001], (some 2), none⟩])
 (.seq (.rg [⟨false, [], [], .det 2 (.a (.c [.i .i64, .b, .sl [.i .i64, .i .i64], .sl [.i .i64]] [.int .i64 (0), .bool false, .slice none 0 0, .slice none 0 0])), [3, 1000000001], (some 3), none⟩])
 (.seq (.rg [o1 4 (.idx .nil),
   o1 5 (.load 1 [] 0 (.t 4) 1 false),
   o1 6 (.idx .nil),
   o4 1 [3] (.store 3 [] 0 (.t 6) (.t 5))])
 (.seq (.rg [o1 7 (.idx .nil),
   o1 8 (.load 1 [] 1 (.t 7) 1 false),
   o1 9 (.idx .nil),
   o4 1 [3] (.store 3 [] 1 (.t 9) (.t 8))])
 (.seq (.rg [o1 10 (.idx .nil),
   o1 11 (.load 1 [] 2 (.t 10) 1 false),
   o3 12 137 [.t 11],
   o1 13 (.idx .nil),
   o4 2 [3, 12] (.store 3 [] 2 (.t 13) (.t 12))])
 (.seq (.rg [o1 14 (.idx .nil),
   o1 15 (.load 1 [] 3 (.t 14) 1 false),
   o3 16 138 [.t 15],
   o1 17 (.idx .nil),
   o4 2 [3, 16] (.store 3 [] 3 (.t 17) (.t 16))])
 (.seq (.rg [o1 18 (.load 3 [] 0 .nil 4 true),
   ⟨false, [18], [], .det 2 (.store 2 [] 0 .nil (.t 18)), [2, 18, 18, 3], none, none⟩])
 .ret)))))))
def s_ltoAnswer : Sig := ⟨[.rd true [.d, .d, .sl (.own none) [.d, .d], .sl (.own none) [.d]]], (.one true [.d, .d, .sl (.own none) [.d, .d], .sl (.own none) [.d]])⟩
noncomputable def E_ltoAnswer : TEnv := envOf [(137, p_ltoEdgeS), (138, p_ltoIntS)]
noncomputable def f_ltoAnswer (n : Nat) : (Int × Bool × List (Int × Int) × List (Int)) → Option ((Int × Bool × List (Int × Int) × List (Int)) × Unit) := runFn n E_ltoAnswer c_ltoAnswer [[.i .i64, .b, .sl [.i .i64, .i .i64], .sl [.i .i64]]] [.i .i64, .b, .sl [.i .i64, .i .i64], .sl [.i .i64]] [] [2] .no
noncomputable def g_ltoAnswer := f_ltoAnswer BIG
noncomputable def p_ltoAnswer : TSp := ⟨s_ltoAnswer, [[.i .i64, .b, .sl [.i .i64, .i .i64], .sl [.i .i64]]], [.i .i64, .b, .sl [.i .i64, .i .i64], .sl [.i .i64]], [], Ou.j .no, g_ltoAnswer⟩
theorem k_ltoAnswer : chkW PG E_ltoAnswer 92 s_ltoAnswer (c_ltoAnswer.ht 19) .no = some (c_ltoAnswer.wc E_ltoAnswer, [2]) := by kernel_rfl
theorem ok_ltoAnswer : p_ltoAnswer.Ok PG 92 := mkOk (env_cons ok_ltoEdgeS (env_cons ok_ltoIntS (env_nil PG))) k_ltoAnswer (by kernel_rfl)
theorem e_ltoAnswer (n : Nat) (a0 : Int × Bool × List (Int × Int) × List (Int)) : f_ltoAnswer n a0 =
  Option.bind (g_ltoEdgeS a0.2.2.1) fun r0 =>
  Option.bind (g_ltoIntS a0.2.2.2) fun r1 =>
  some ((a0.1, a0.2.1, r0.1, r1.1), ()) := by kernel_rfl
/- laws.toShard -/
def c_ltoShard : TC :=
 (.seq (.rg [o1 1 (.a (.t 0)),
   ⟨false, [], [], .det 2 (.a (.c [.i .i64, .i .i64, .sl [.i .i64, .i .i64, .i .i64, .b], .i .i64, .b, .sl [.i .i64, .i .i64], .sl [.i .i64]] [.int .i64 (0), .int .i64 (0), .slice none 0 0, .int .i64 (0), .bool false, .slice none 0 0, .slice none 0 0])), [2, 1000000001], (some 2), none⟩])
 (.seq (.rg [⟨false, [], [], .det 2 (.a (.c [.i .i64, .i .i64, .sl [.i .i64, .i .i64, .i .i64, .b], .i .i64, .b, .sl [.i .i64, .i .i64], .sl [.i .i64]] [.int .i64 (0), .int .i64 (0), .slice none 0 0, .int .i64 (0), .bool false, .slice none 0 0, .slice none 0 0])), [3, 1000000001], (some 3), none⟩])
 (.seq (.rg [o1 4 (.idx .nil),
   o1 5 (.load 1 [] 0 (.t 4) 1 false),
   o1 6 (.idx .nil),
   o4 1 [3] (.store 3 [] 0 (.t 6) (.t 5))])
 (.seq (.rg [o1 7 (.idx .nil),
   o1 8 (.load 1 [] 1 (.t 7) 2 false),
   o3 9 91 [.t 8],
   o1 10 (.idx .nil),
   o4 2 [3, 9] (.store 3 [] 1 (.t 10) (.t 9))])
 (.seq (.rg [o1 11 (.idx .nil),
   o1 12 (.load 1 [] 3 (.t 11) 4 false),
   o3 13 92 [.t 12],
   o1 14 (.idx .nil),
   o4 2 [3, 13] (.store 3 [] 3 (.t 14) (.t 13))])
 (.seq (.rg [o1 15 (.load 3 [] 0 .nil 7 true),
   ⟨false, [15], [], .det 2 (.store 2 [] 0 .nil (.t 15)), [2, 15, 15, 3], none, none⟩])
 .ret))))))
def s_ltoShard : Sig := ⟨[.rd true [.d, .d, .sl (.own none) [.d, .d, .d, .d], .d, .d, .sl (.own none) [.d, .d], .sl (.own none) [.d]]], (.one true [.d, .d, .sl (.own none) [.d, .d, .d, .d], .d, .d, .sl (.own none) [.d, .d], .sl (.own none) [.d]])⟩
noncomputable def E_ltoShard : TEnv := envOf [(91, p_ltoWeb), (92, p_ltoAnswer)]
noncomputable def f_ltoShard (n : Nat) : (Int × Int × List (Int × Int × Int × Bool) × Int × Bool × List (Int × Int) × List (Int)) → Option ((Int × Int × List (Int × Int × Int × Bool) × Int × Bool × List (Int × Int) × List (Int)) × Unit) := runFn n E_ltoShard c_ltoShard [[.i .i64, .i .i64, .sl [.i .i64, .i .i64, .i .i64, .b], .i .i64, .b, .sl [.i .i64, .i .i64], .sl [.i .i64]]] [.i .i64, .i .i64, .sl [.i .i64, .i .i64, .i .i64, .b], .i .i64, .b, .sl [.i .i64, .i .i64], .sl [.i .i64]] [] [2] .no
noncomputable def g_ltoShard := f_ltoShard BIG
noncomputable def p_ltoShard : TSp := ⟨s_ltoShard, [[.i .i64, .i .i64, .sl [.i .i64, .i .i64, .i .i64, .b], .i .i64, .b, .sl [.i .i64, .i .i64], .sl [.i .i64]]], [.i .i64, .i .i64, .sl [.i .i64, .i .i64, .i .i64, .b], .i .i64, .b, .sl [.i .i64, .i .i64], .sl [.i .i64]], [], Ou.j .no, g_ltoShard⟩
theorem k_ltoShard : chkW PG E_ltoShard 36 s_ltoShard (c_ltoShard.ht 16) .no = some (c_ltoShard.wc E_ltoShard, [2]) := by kernel_rfl
theorem ok_ltoShard : p_ltoShard.Ok PG 36 := mkOk (env_cons ok_ltoWeb (env_cons ok_ltoAnswer (env_nil PG))) k_ltoShard (by kernel_rfl)
theorem e_ltoShard (n : Nat) (a0 : Int × Int × List (Int × Int × Int × Bool) × Int × Bool × List (Int × Int) × List (Int)) : f_ltoShard n a0 =
  Option.bind (g_ltoWeb (a0.2.1, a0.2.2.1)) fun r0 =>
  Option.bind (g_ltoAnswer a0.2.2.2) fun r1 =>
  some ((a0.1, r0.1.1, r0.1.2, r1.1), ()) := by kernel_rfl
/- spec.l01In -/
def c_sl01In : TC :=
 (.seq (.rg [o1 6 (.lit [.b] [.bool false])])
 (.seq (.join [⟨6, [.b], false⟩] 32704 none (.rg [o1 7 (.copy 0),
   o1 8 (.copy 1),
   o1 9 (.data (.bin .geq) [.t 7, .t 8]),
   o1 10 (.copy 9),
   o2 11 (.copy 0) 3 true,
   o2 12 (.copy 2) 3 true,
   o2 13 (.data (.bin .leq) [.t 11, .t 12]) 3 true,
   ⟨false, [], [], .pick 10 (.t 13) (.c (.bool false)), [14], (some 14), none⟩,
   o1 6 (.copy 14)]))
 .ret))
def s_sl01In : Sig := ⟨[.rd false [.d], .rd false [.d], .rd false [.d]], (.one false [.d])⟩
noncomputable def E_sl01In : TEnv := envOf []
noncomputable def f_sl01In (n : Nat) : Int × Int × Int → Option ((Bool) × Unit) := runFn n E_sl01In c_sl01In [[.i .i64], [.i .i64], [.i .i64]] [.b] [] [6] .no
noncomputable def g_sl01In := f_sl01In BIG
noncomputable def p_sl01In : TSp := ⟨s_sl01In, [[.i .i64], [.i .i64], [.i .i64]], [.b], [], Ou.j .no, g_sl01In⟩
theorem k_sl01In : chkW PG E_sl01In 46 s_sl01In (c_sl01In.ht 15) .no = some (c_sl01In.wc E_sl01In, [6]) := by kernel_rfl
theorem ok_sl01In : p_sl01In.Ok PG 46 := mkOk (env_nil PG) k_sl01In (by kernel_rfl)
theorem e_sl01In (n : Nat) (a0 : Int) (a1 : Int) (a2 : Int) : f_sl01In n (a0, a1, a2) =
  Option.bind (bif decide (a1 ≤ a0) then
    some (decide (a0 ≤ a2))
   else some false : Option (Bool)) fun x0 =>
  some (x0, ()) := by kernel_rfl
/- spec.GraphOf -/
def c_sGraphOf : TC :=
 (.seq (.rg [o1 1 (.a (.t 0)),
   ⟨false, [], [], .det 2 (.a (.c [.i .i64, .sl [.i .i64, .i .i64]] [.int .i64 (0), .slice none 0 0])), [2, 1000000001], (some 2), none⟩])
 (.seq (.rg [o1 5 (.idx .nil),
   o1 6 (.load 1 [] 0 (.t 5) 1 false),
   o1 7 (.build [.i .i64, .sl [.i .i64, .i .i64]] [(0, .t 6)]),
   ⟨false, [], [], .det 2 (.a (.c [.i .i64, .sl [.i .i64, .i .i64]] [.int .i64 (0), .slice none 0 0])), [3, 1000000001], (some 3), none⟩,
   o4 2 [3, 7] (.store 3 [] 0 .nil (.t 7))])
 (.seq (.join [⟨3, [.i .i64, .sl [.i .i64, .i .i64]], false⟩] 8589934360 none (.seq (.rg [o1 4 (.lit [.i .i64] [.int .i64 (0)])])
 (.block 0 (.loop [⟨3, [.i .i64, .sl [.i .i64, .i .i64]], false⟩, ⟨4, [.i .i64], false⟩] 8589934360
  (.seq (.seq (.rg [o1 8 (.copy 4),
    o1 9 (.idx .nil),
    o1 10 (.load 1 [] 1 (.t 9) 1 false),
    o1 11 (.len 10),
    o1 12 (.data (.bin .lss) [.t 8, .t 11])])
  (.cond (.t 12)
   .skip
   (.exit 0)))
  (.seq (.block 1 (.rg [o1 15 (.idx .nil),
    o1 16 (.load 3 [] 1 (.t 15) 1 true),
    o1 17 (.idx .nil),
    o1 18 (.load 1 [] 1 (.t 17) 1 false),
    o1 19 (.copy 4),
    o1 20 (.index 18 (.t 19)),
    o1 21 (.idx (.t 20)),
    o1 22 (.load 18 [(0, 4)] 0 (.t 21) 1 false),
    o1 23 (.idx .nil),
    o1 24 (.load 1 [] 1 (.t 23) 1 false),
    o1 25 (.copy 4),
    o1 26 (.index 24 (.t 25)),
    o1 27 (.idx (.t 26)),
    o1 28 (.load 24 [(0, 4)] 1 (.t 27) 1 false),
    o1 29 (.build [.i .i64, .i .i64] [(0, .t 22), (1, .t 28)]),
    o1 30 (.sli [.i .i64, .i .i64] [.t 29]),
    ⟨false, [16], [], .det 2 (.app (some 16) 30), [31, 16, 16, 3], (some 31), none⟩,
    o1 32 (.idx .nil),
    o4 2 [3, 31, 16] (.store 3 [] 1 (.t 32) (.t 31))]))
  (.rg [o1 13 (.copy 4),
    o1 14 (.data (.bin .add) [.t 13, .c (.int .i64 (1))]),
    o1 4 (.copy 14)])))))))
 (.seq (.rg [o1 33 (.load 3 [] 0 .nil 2 true),
   ⟨false, [33], [], .det 2 (.store 2 [] 0 .nil (.t 33)), [2, 33, 33, 3], none, none⟩])
 .ret))))
def s_sGraphOf : Sig := ⟨[.rd true [.d, .sl (.own none) [.d, .d, .d, .d]]], (.one true [.d, .sl (.own none) [.d, .d]])⟩
noncomputable def E_sGraphOf : TEnv := envOf []
noncomputable def f_sGraphOf (n : Nat) : (Int × List (Int × Int × Int × Bool)) → Option ((Int × List (Int × Int)) × Unit) := runFn n E_sGraphOf c_sGraphOf [[.i .i64, .sl [.i .i64, .i .i64, .i .i64, .b]]] [.i .i64, .sl [.i .i64, .i .i64]] [] [2] .no
noncomputable def g_sGraphOf := f_sGraphOf BIG
noncomputable def p_sGraphOf : TSp := ⟨s_sGraphOf, [[.i .i64, .sl [.i .i64, .i .i64, .i .i64, .b]]], [.i .i64, .sl [.i .i64, .i .i64]], [], Ou.j .no, g_sGraphOf⟩
theorem k_sGraphOf : chkW PG E_sGraphOf 131 s_sGraphOf (c_sGraphOf.ht 34) .no = some (c_sGraphOf.wc E_sGraphOf, [2]) := by kernel_rfl
theorem ok_sGraphOf : p_sGraphOf.Ok PG 131 := mkOk (env_nil PG) k_sGraphOf (by kernel_rfl)
theorem e_sGraphOf (n : Nat) (a0 : Int × List (Int × Int × Int × Bool)) : f_sGraphOf n a0 =
  Option.bind (loopT n (X := (Int × List (Int × Int)) × Int) (B := (Int × List (Int × Int))) (fun self1 x0 =>
    bif decide (x0.2 < (a0.2.length : Int)) then
     bnd a0.2.length x0.2 fun n2 =>
     Option.bind a0.2[n2]? fun y3 =>
     bnd a0.2.length x0.2 fun n4 =>
     Option.bind a0.2[n4]? fun y5 =>
     bif decide (x0.1.2.length + ([(y3.1, y5.2.1)]).length ≤ 4294967296) then
      self1 ((x0.1.1, x0.1.2 ++ ([(y3.1, y5.2.1)])), IntKind.wrap .i64 (x0.2 + (1 : Int)))
     else none
    else some x0.1) ((a0.1, []), (0 : Int)) : Option ((Int × List (Int × Int)))) fun x6 =>
  some (x6, ()) := by kernel_rfl
/- spec.EdgeOk -/
def c_sEdgeOk : TC :=
 (.seq (.rg [o1 3 (.a (.t 1)),
   o1 4 (.lit [.b] [.bool false])])
 (.seq (.join [⟨4, [.b], false⟩] 268435440 none (.rg [o1 5 (.copy 0),
   o3 6 46 [.t 5, .c [.i .i64] [.int .i64 (1)], .c [.i .i64] [.int .i64 (12)]],
   o1 7 (.copy 6),
   o2 8 (.idx .nil) 2 true,
   o2 9 (.load 3 [] 0 (.t 8) 1 false) 2 true,
   o2 10 (.copy 0) 2 true,
   o2 11 (.data (.bin .sub) [.t 10, .c (.int .i64 (1))]) 2 true,
   ⟨false, [], [], .call 1 46 [.t 9, .c [.i .i64] [.int .i64 (0)], .t 11] .no, [12], (some 12), some (2, true)⟩,
   ⟨false, [], [], .pick 7 (.t 12) (.c (.bool false)), [13], (some 13), none⟩,
   o1 14 (.copy 13),
   o2 15 (.idx .nil) 9 true,
   o2 16 (.load 3 [] 1 (.t 15) 1 false) 9 true,
   o2 17 (.copy 0) 9 true,
   o2 18 (.data (.bin .sub) [.t 17, .c (.int .i64 (1))]) 9 true,
   ⟨false, [], [], .call 1 46 [.t 16, .c [.i .i64] [.int .i64 (0)], .t 18] .no, [19], (some 19), some (9, true)⟩,
   ⟨false, [], [], .pick 14 (.t 19) (.c (.bool false)), [20], (some 20), none⟩,
   o1 21 (.copy 20),
   o2 22 (.idx .nil) 16 true,
   o2 23 (.load 3 [] 0 (.t 22) 1 false) 16 true,
   o2 24 (.idx .nil) 16 true,
   o2 25 (.load 3 [] 1 (.t 24) 1 false) 16 true,
   o2 26 (.data (.bin .lss) [.t 23, .t 25]) 16 true,
   ⟨false, [], [], .pick 21 (.t 26) (.c (.bool false)), [27], (some 27), none⟩,
   o1 4 (.copy 27)]))
 .ret))
def s_sEdgeOk : Sig := ⟨[.rd false [.d], .rd true [.d, .d]], (.one false [.d])⟩
noncomputable def E_sEdgeOk : TEnv := envOf [(46, p_sl01In)]
noncomputable def f_sEdgeOk (n : Nat) : Int × (Int × Int) → Option ((Bool) × Unit) := runFn n E_sEdgeOk c_sEdgeOk [[.i .i64], [.i .i64, .i .i64]] [.b] [] [4] .no
noncomputable def g_sEdgeOk := f_sEdgeOk BIG
noncomputable def p_sEdgeOk : TSp := ⟨s_sEdgeOk, [[.i .i64], [.i .i64, .i .i64]], [.b], [], Ou.j .no, g_sEdgeOk⟩
theorem k_sEdgeOk : chkW PG E_sEdgeOk 47 s_sEdgeOk (c_sEdgeOk.ht 28) .no = some (c_sEdgeOk.wc E_sEdgeOk, [4]) := by kernel_rfl
theorem ok_sEdgeOk : p_sEdgeOk.Ok PG 47 := mkOk (env_cons ok_sl01In (env_nil PG)) k_sEdgeOk (by kernel_rfl)
theorem e_sEdgeOk (n : Nat) (a0 : Int) (a1 : Int × Int) : f_sEdgeOk n (a0, a1) =
  Option.bind (Option.bind (g_sl01In (a0, (1 : Int), (12 : Int))) fun r0 =>
   bif r0.1 then
    Option.bind (g_sl01In (a1.1, (0 : Int), IntKind.wrap .i64 (a0 - (1 : Int)))) fun r1 =>
    bif r1.1 then
     Option.bind (g_sl01In (a1.2, (0 : Int), IntKind.wrap .i64 (a0 - (1 : Int)))) fun r2 =>
     bif r2.1 then
      some (decide (a1.1 < a1.2))
     else some false
    else some false
   else some false : Option (Bool)) fun x3 =>
  some (x3, ()) := by kernel_rfl
/- spec.l05Less -/
def c_sl05Less : TC :=
 (.seq (.rg [o1 2 (.a (.t 0)),
   o1 3 (.a (.t 1)),
   o1 4 (.lit [.b] [.bool false])])
 (.seq (.join [⟨4, [.b], false⟩] 16777200 none (.rg [o1 5 (.idx .nil),
   o1 6 (.load 2 [] 0 (.t 5) 1 false),
   o1 7 (.idx .nil),
   o1 8 (.load 3 [] 0 (.t 7) 1 false),
   o1 9 (.data (.bin .lss) [.t 6, .t 8]),
   o1 10 (.copy 9),
   o2 11 (.idx .nil) 5 false,
   o2 12 (.load 2 [] 0 (.t 11) 1 false) 5 false,
   o2 13 (.idx .nil) 5 false,
   o2 14 (.load 3 [] 0 (.t 13) 1 false) 5 false,
   o2 15 (.data (.bin .eql) [.t 12, .t 14]) 5 false,
   o2 16 (.copy 15) 5 false,
   o2 17 (.idx .nil) 11 true,
   o2 18 (.load 2 [] 1 (.t 17) 1 false) 11 true,
   o2 19 (.idx .nil) 11 true,
   o2 20 (.load 3 [] 1 (.t 19) 1 false) 11 true,
   o2 21 (.data (.bin .lss) [.t 18, .t 20]) 11 true,
   ⟨false, [], [], .pick 16 (.t 21) (.c (.bool false)), [22], (some 22), some (5, false)⟩,
   ⟨false, [], [], .pick 10 (.c (.bool true)) (.t 22), [23], (some 23), none⟩,
   o1 4 (.copy 23)]))
 .ret))
def s_sl05Less : Sig := ⟨[.rd true [.d, .d], .rd true [.d, .d]], (.one false [.d])⟩
noncomputable def E_sl05Less : TEnv := envOf []
noncomputable def f_sl05Less (n : Nat) : (Int × Int) × (Int × Int) → Option ((Bool) × Unit) := runFn n E_sl05Less c_sl05Less [[.i .i64, .i .i64], [.i .i64, .i .i64]] [.b] [] [4] .no
noncomputable def g_sl05Less := f_sl05Less BIG
noncomputable def p_sl05Less : TSp := ⟨s_sl05Less, [[.i .i64, .i .i64], [.i .i64, .i .i64]], [.b], [], Ou.j .no, g_sl05Less⟩
theorem k_sl05Less : chkW PG E_sl05Less 116 s_sl05Less (c_sl05Less.ht 24) .no = some (c_sl05Less.wc E_sl05Less, [4]) := by kernel_rfl
theorem ok_sl05Less : p_sl05Less.Ok PG 116 := mkOk (env_nil PG) k_sl05Less (by kernel_rfl)
theorem e_sl05Less (n : Nat) (a0 : Int × Int) (a1 : Int × Int) : f_sl05Less n (a0, a1) =
  Option.bind (bif decide (a0.1 < a1.1) then
    some true
   else bif decide (a0.1 = a1.1) then
    some (decide (a0.2 < a1.2))
   else some false : Option (Bool)) fun x0 =>
  some (x0, ()) := by kernel_rfl
/- spec.l05Edges -/
def c_sl05Edges : TC :=
 (.seq (.rg [o1 4 (.lit [.b] [.bool false])])
 (.seq (.join [] 68719476720 (some [⟨4, [.b], false⟩]) (.seq (.rg [o1 5 (.lit [.i .i64] [.int .i64 (0)])])
 (.block 0 (.loop [⟨5, [.i .i64], false⟩] 68719476720
  (.seq (.seq (.rg [o1 6 (.copy 5),
    o1 7 (.copy 1),
    o1 8 (.len 7),
    o1 9 (.data (.bin .lss) [.t 6, .t 8])])
  (.cond (.t 9)
   .skip
   (.exit 0)))
  (.seq (.join [] 68719472656 (some [⟨4, [.b], false⟩]) (.block 1 (.seq (.join [⟨35, [.b], false⟩] 68719472640 none (.rg [o1 12 (.copy 0),
    o1 13 (.copy 1),
    o1 14 (.copy 5),
    o1 15 (.index 13 (.t 14)),
    o1 16 (.load 13 [(0, 2)] 0 (.t 15) 2 false),
    o3 17 47 [.t 12, .t 16],
    o1 18 (.data .not [.t 17]),
    o1 19 (.copy 18),
    o2 20 (.copy 5) 7 false,
    o2 21 (.data (.bin .gtr) [.t 20, .c (.int .i64 (0))]) 7 false,
    o2 22 (.copy 21) 7 false,
    o2 23 (.copy 1) 10 true,
    o2 24 (.copy 5) 10 true,
    o2 25 (.data (.bin .sub) [.t 24, .c (.int .i64 (1))]) 10 true,
    o2 26 (.index 23 (.t 25)) 10 true,
    o2 27 (.load 23 [(0, 2)] 0 (.t 26) 2 false) 10 true,
    o2 28 (.copy 1) 10 true,
    o2 29 (.copy 5) 10 true,
    o2 30 (.index 28 (.t 29)) 10 true,
    o2 31 (.load 28 [(0, 2)] 0 (.t 30) 2 false) 10 true,
    ⟨false, [], [], .call 1 116 [.t 27, .t 31] .no, [32], (some 32), some (10, true)⟩,
    o2 33 (.data .not [.t 32]) 10 true,
    ⟨false, [], [], .pick 22 (.t 33) (.c (.bool false)), [34], (some 34), some (7, false)⟩,
    ⟨false, [], [], .pick 19 (.c (.bool true)) (.t 34), [35], (some 35), none⟩]))
  (.cond (.t 35)
   (.seq (.rg [o1 4 (.lit [.b] [.bool false])])
   .ret)
   .skip))))
  (.rg [o1 10 (.copy 5),
    o1 11 (.data (.bin .add) [.t 10, .c (.int .i64 (1))]),
    o1 5 (.copy 11)])))))))
 (.seq (.rg [o1 36 (.copy 1),
   o1 37 (.len 36),
   o1 38 (.data (.bin .leq) [.t 37, .c (.int .i64 (66))]),
   o1 4 (.copy 38)])
 .ret)))
def s_sl05Edges : Sig := ⟨[.rd false [.d], .rd false [.sl (.own none) [.d, .d]]], (.one false [.d])⟩
noncomputable def E_sl05Edges : TEnv := envOf [(47, p_sEdgeOk), (116, p_sl05Less)]
noncomputable def f_sl05Edges (n : Nat) : Int × (List (Int × Int)) → Option ((Bool) × Unit) := runFn n E_sl05Edges c_sl05Edges [[.i .i64], [.sl [.i .i64, .i .i64]]] [.b] [] [4] .no
noncomputable def g_sl05Edges := f_sl05Edges BIG
noncomputable def p_sl05Edges : TSp := ⟨s_sl05Edges, [[.i .i64], [.sl [.i .i64, .i .i64]]], [.b], [], Ou.j .no, g_sl05Edges⟩
theorem k_sl05Edges : chkW PG E_sl05Edges 63 s_sl05Edges (c_sl05Edges.ht 39) .no = some (c_sl05Edges.wc E_sl05Edges, [4]) := by kernel_rfl
theorem ok_sl05Edges : p_sl05Edges.Ok PG 63 := mkOk (env_cons ok_sEdgeOk (env_cons ok_sl05Less (env_nil PG))) k_sl05Edges (by kernel_rfl)
theorem e_sl05Edges (n : Nat) (a0 : Int) (a1 : List (Int × Int)) : f_sl05Edges n (a0, a1) =
  Option.bind (loopT n (X := Int) (B := (Unit) ⊕ (Bool)) (fun self1 x0 =>
    bif decide (x0 < (a1.length : Int)) then
     Option.bind (Option.bind (bnd a1.length x0 fun n2 =>
       Option.bind a1[n2]? fun y3 =>
       Option.bind (g_sEdgeOk (a0, y3)) fun r4 =>
       bif !r4.1 then
        some true
       else bif decide ((0 : Int) < x0) then
        bnd a1.length (IntKind.wrap .i64 (x0 - (1 : Int))) fun n5 =>
        Option.bind a1[n5]? fun y6 =>
        bnd a1.length x0 fun n7 =>
        Option.bind a1[n7]? fun y8 =>
        Option.bind (g_sl05Less (y6, y8)) fun r9 =>
        some !r9.1
       else some false : Option (Bool)) fun x10 =>
      bif x10 then
       some (Sum.inr false)
      else some (Sum.inl ()) : Option ((Unit) ⊕ (Bool))) fun y => match y with
     | .inl x11 =>
      self1 (IntKind.wrap .i64 (x0 + (1 : Int)))
     | .inr x11 =>
      some (Sum.inr x11)
    else some (Sum.inl ())) (0 : Int) : Option ((Unit) ⊕ (Bool))) fun y => match y with
  | .inl x12 =>
   some (decide ((a1.length : Int) ≤ (66 : Int)), ())
  | .inr x12 =>
   some (x12, ()) := by kernel_rfl
/- spec.GraphOk -/
def c_sGraphOk : TC :=
 (.seq (.rg [o1 1 (.a (.t 0)),
   o1 2 (.lit [.b] [.bool false])])
 (.seq (.join [⟨2, [.b], false⟩] 8188 none (.rg [o1 3 (.idx .nil),
   o1 4 (.load 1 [] 0 (.t 3) 1 false),
   o3 5 46 [.t 4, .c [.i .i64] [.int .i64 (1)], .c [.i .i64] [.int .i64 (12)]],
   o1 6 (.copy 5),
   o2 7 (.idx .nil) 3 true,
   o2 8 (.load 1 [] 0 (.t 7) 1 false) 3 true,
   o2 9 (.idx .nil) 3 true,
   o2 10 (.load 1 [] 1 (.t 9) 1 false) 3 true,
   ⟨false, [], [], .call 1 63 [.t 8, .t 10] .no, [11], (some 11), some (3, true)⟩,
   ⟨false, [], [], .pick 6 (.t 11) (.c (.bool false)), [12], (some 12), none⟩,
   o1 2 (.copy 12)]))
 .ret))
def s_sGraphOk : Sig := ⟨[.rd true [.d, .sl (.own none) [.d, .d]]], (.one false [.d])⟩
noncomputable def E_sGraphOk : TEnv := envOf [(46, p_sl01In), (63, p_sl05Edges)]
noncomputable def f_sGraphOk (n : Nat) : (Int × List (Int × Int)) → Option ((Bool) × Unit) := runFn n E_sGraphOk c_sGraphOk [[.i .i64, .sl [.i .i64, .i .i64]]] [.b] [] [2] .no
noncomputable def g_sGraphOk := f_sGraphOk BIG
noncomputable def p_sGraphOk : TSp := ⟨s_sGraphOk, [[.i .i64, .sl [.i .i64, .i .i64]]], [.b], [], Ou.j .no, g_sGraphOk⟩
theorem k_sGraphOk : chkW PG E_sGraphOk 18 s_sGraphOk (c_sGraphOk.ht 13) .no = some (c_sGraphOk.wc E_sGraphOk, [2]) := by kernel_rfl
theorem ok_sGraphOk : p_sGraphOk.Ok PG 18 := mkOk (env_cons ok_sl01In (env_cons ok_sl05Edges (env_nil PG))) k_sGraphOk (by kernel_rfl)
theorem e_sGraphOk (n : Nat) (a0 : Int × List (Int × Int)) : f_sGraphOk n a0 =
  Option.bind (Option.bind (g_sl01In (a0.1, (1 : Int), (12 : Int))) fun r0 =>
   bif r0.1 then
    Option.bind (g_sl05Edges (a0.1, a0.2)) fun r1 =>
    some r1.1
   else some false : Option (Bool)) fun x2 =>
  some (x2, ()) := by kernel_rfl
/- spec.l08Tree -/
def c_sl08Tree : TC :=
 (.seq (.rg [o1 2 (.a (.t 0)),
   o1 4 (.lit [.sl [.i .i64, .i .i64]] [.slice none 0 0])])
 (.seq (.rg [o1 8 (.sli [.i .i64, .i .i64] []),
   ⟨false, [], [], .det 2 (.copy 8), [5, 8], (some 5), none⟩])
 (.seq (.join [⟨5, [.sl [.i .i64, .i .i64]], false⟩] 137438953184 none (.seq (.rg [o1 6 (.lit [.i .i64] [.int .i64 (0)])])
 (.block 0 (.loop [⟨5, [.sl [.i .i64, .i .i64]], false⟩, ⟨6, [.i .i64], false⟩] 137438953184
  (.seq (.seq (.rg [o1 9 (.copy 6),
    o1 10 (.idx .nil),
    o1 11 (.load 2 [] 1 (.t 10) 1 false),
    o1 12 (.len 11),
    o1 13 (.data (.bin .lss) [.t 9, .t 12])])
  (.cond (.t 13)
   .skip
   (.exit 0)))
  (.seq (.join [⟨5, [.sl [.i .i64, .i .i64]], false⟩] 137438888096 none (.block 1 (.seq (.rg [o1 16 (.idx .nil),
    o1 17 (.load 2 [] 1 (.t 16) 1 false),
    o1 18 (.copy 6),
    o1 19 (.index 17 (.t 18)),
    o1 20 (.load 17 [(0, 4)] 0 (.t 19) 4 false),
    ⟨false, [], [], .det 2 (.a (.c [.i .i64, .i .i64, .i .i64, .b] [.int .i64 (0), .int .i64 (0), .int .i64 (0), .bool false])), [7, 1000000001], (some 7), none⟩,
    o4 1 [7] (.store 7 [] 0 .nil (.t 20))])
  (.seq (.join [⟨28, [.b], false⟩] 534773760 none (.rg [o1 21 (.idx .nil),
    o1 22 (.load 7 [] 3 (.t 21) 1 false),
    o1 23 (.copy 22),
    o2 24 (.idx .nil) 2 true,
    o2 25 (.load 7 [] 2 (.t 24) 1 false) 2 true,
    o2 26 (.copy 1) 2 true,
    o2 27 (.data (.bin .geq) [.t 25, .t 26]) 2 true,
    ⟨false, [], [], .pick 23 (.t 27) (.c (.bool false)), [28], (some 28), none⟩]))
  (.cond (.t 28)
   (.rg [⟨false, [], [], .det 2 (.copy 5), [29, 5], (some 29), none⟩,
     o1 30 (.idx .nil),
     o1 31 (.load 7 [] 0 (.t 30) 1 false),
     o1 32 (.idx .nil),
     o1 33 (.load 7 [] 1 (.t 32) 1 false),
     o1 34 (.build [.i .i64, .i .i64] [(0, .t 31), (1, .t 33)]),
     o1 35 (.sli [.i .i64, .i .i64] [.t 34]),
     ⟨false, [], [], .det 2 (.app (some 29) 35), [36, 29], (some 36), none⟩,
     ⟨false, [], [], .det 2 (.copy 36), [5, 36], (some 5), none⟩])
   .skip)))))
  (.rg [o1 14 (.copy 6),
    o1 15 (.data (.bin .add) [.t 14, .c (.int .i64 (1))]),
    o1 6 (.copy 15)])))))))
 (.seq (.rg [⟨false, [], [], .det 2 (.copy 5), [37, 5], (some 37), none⟩,
   ⟨false, [], [], .det 2 (.copy 37), [4, 37], (some 4), none⟩])
 .ret))))
def s_sl08Tree : Sig := ⟨[.rd true [.d, .sl (.own none) [.d, .d, .d, .d]], .rd false [.d]], (.one false [.sl (.own none) [.d, .d]])⟩
noncomputable def E_sl08Tree : TEnv := envOf []
noncomputable def f_sl08Tree (n : Nat) : (Int × List (Int × Int × Int × Bool)) × Int → Option ((List (Int × Int)) × Unit) := runFn n E_sl08Tree c_sl08Tree [[.i .i64, .sl [.i .i64, .i .i64, .i .i64, .b]], [.i .i64]] [.sl [.i .i64, .i .i64]] [] [4] .no
noncomputable def g_sl08Tree := f_sl08Tree BIG
noncomputable def p_sl08Tree : TSp := ⟨s_sl08Tree, [[.i .i64, .sl [.i .i64, .i .i64, .i .i64, .b]], [.i .i64]], [.sl [.i .i64, .i .i64]], [], Ou.j .no, g_sl08Tree⟩
theorem k_sl08Tree : chkW PG E_sl08Tree 149 s_sl08Tree (c_sl08Tree.ht 38) .no = some (c_sl08Tree.wc E_sl08Tree, [4]) := by kernel_rfl
theorem ok_sl08Tree : p_sl08Tree.Ok PG 149 := mkOk (env_nil PG) k_sl08Tree (by kernel_rfl)
theorem e_sl08Tree (n : Nat) (a0 : Int × List (Int × Int × Int × Bool)) (a1 : Int) : f_sl08Tree n (a0, a1) =
  Option.bind (loopT n (X := (List (Int × Int)) × Int) (B := (List (Int × Int))) (fun self1 x0 =>
    bif decide (x0.2 < (a0.2.length : Int)) then
     Option.bind (bnd a0.2.length x0.2 fun n2 =>
      Option.bind a0.2[n2]? fun y3 =>
      Option.bind (bif y3.2.2.2 then
        some (decide (a1 ≤ y3.2.2.1))
       else some false : Option (Bool)) fun x4 =>
      bif x4 then
       bif decide (x0.1.length + ([(y3.1, y3.2.1)]).length ≤ 4294967296) then
        some (x0.1 ++ ([(y3.1, y3.2.1)]))
       else none
      else some x0.1 : Option ((List (Int × Int)))) fun x5 =>
     self1 (x5, IntKind.wrap .i64 (x0.2 + (1 : Int)))
    else some x0.1) ([], (0 : Int)) : Option ((List (Int × Int)))) fun x6 =>
  some (x6, ()) := by kernel_rfl
/- spec.l05In -/
def c_sl05In : TC :=
 (.seq (.rg [o1 4 (.lit [.b] [.bool false])])
 (.seq (.join [] 262128 (some [⟨4, [.b], false⟩]) (.seq (.rg [o1 5 (.lit [.i .i64] [.int .i64 (0)])])
 (.block 0 (.loop [⟨5, [.i .i64], false⟩] 262128
  (.seq (.seq (.rg [o1 6 (.copy 5),
    o1 7 (.copy 0),
    o1 8 (.len 7),
    o1 9 (.data (.bin .lss) [.t 6, .t 8])])
  (.cond (.t 9)
   .skip
   (.exit 0)))
  (.seq (.block 1 (.seq (.rg [o1 12 (.copy 0),
    o1 13 (.copy 5),
    o1 14 (.index 12 (.t 13)),
    o1 15 (.load 12 [(0, 1)] 0 (.t 14) 1 false),
    o1 16 (.copy 1),
    o1 17 (.data (.bin .eql) [.t 15, .t 16])])
  (.cond (.t 17)
   (.seq (.rg [o1 4 (.lit [.b] [.bool true])])
   .ret)
   .skip)))
  (.rg [o1 10 (.copy 5),
    o1 11 (.data (.bin .add) [.t 10, .c (.int .i64 (1))]),
    o1 5 (.copy 11)])))))))
 (.seq (.rg [o1 4 (.lit [.b] [.bool false])])
 .ret)))
def s_sl05In : Sig := ⟨[.rd false [.sl (.own none) [.d]], .rd false [.d]], (.one false [.d])⟩
noncomputable def E_sl05In : TEnv := envOf []
noncomputable def f_sl05In (n : Nat) : List (Int) × Int → Option ((Bool) × Unit) := runFn n E_sl05In c_sl05In [[.sl [.i .i64]], [.i .i64]] [.b] [] [4] .no
noncomputable def g_sl05In := f_sl05In BIG
noncomputable def p_sl05In : TSp := ⟨s_sl05In, [[.sl [.i .i64]], [.i .i64]], [.b], [], Ou.j .no, g_sl05In⟩
theorem k_sl05In : chkW PG E_sl05In 150 s_sl05In (c_sl05In.ht 18) .no = some (c_sl05In.wc E_sl05In, [4]) := by kernel_rfl
theorem ok_sl05In : p_sl05In.Ok PG 150 := mkOk (env_nil PG) k_sl05In (by kernel_rfl)
theorem e_sl05In (n : Nat) (a0 : List (Int)) (a1 : Int) : f_sl05In n (a0, a1) =
  Option.bind (loopT n (X := Int) (B := (Unit) ⊕ (Bool)) (fun self1 x0 =>
    bif decide (x0 < (a0.length : Int)) then
     bnd a0.length x0 fun n2 =>
     Option.bind a0[n2]? fun y3 =>
     bif decide (y3 = a1) then
      some (Sum.inr true)
     else self1 (IntKind.wrap .i64 (x0 + (1 : Int)))
    else some (Sum.inl ())) (0 : Int) : Option ((Unit) ⊕ (Bool))) fun y => match y with
  | .inl x4 =>
   some (false, ())
  | .inr x4 =>
   some (x4, ()) := by kernel_rfl
/- spec.l05Has -/
def c_sl05Has : TC :=
 (.seq (.rg [o1 3 (.a (.t 1)),
   o1 4 (.lit [.b] [.bool false])])
 (.seq (.join [] 262128 (some [⟨4, [.b], false⟩]) (.seq (.rg [o1 5 (.lit [.i .i64] [.int .i64 (0)])])
 (.block 0 (.loop [⟨5, [.i .i64], false⟩] 262128
  (.seq (.seq (.rg [o1 6 (.copy 5),
    o1 7 (.copy 0),
    o1 8 (.len 7),
    o1 9 (.data (.bin .lss) [.t 6, .t 8])])
  (.cond (.t 9)
   .skip
   (.exit 0)))
  (.seq (.block 1 (.seq (.rg [o1 12 (.copy 0),
    o1 13 (.copy 5),
    o1 14 (.index 12 (.t 13)),
    o1 15 (.load 12 [(0, 2)] 0 (.t 14) 2 false),
    o1 16 (.load 3 [] 0 .nil 2 false),
    o1 17 (.eqA [.i, .i] (.t 15) (.t 16) false)])
  (.cond (.t 17)
   (.seq (.rg [o1 4 (.lit [.b] [.bool true])])
   .ret)
   .skip)))
  (.rg [o1 10 (.copy 5),
    o1 11 (.data (.bin .add) [.t 10, .c (.int .i64 (1))]),
    o1 5 (.copy 11)])))))))
 (.seq (.rg [o1 4 (.lit [.b] [.bool false])])
 .ret)))
def s_sl05Has : Sig := ⟨[.rd false [.sl (.own none) [.d, .d]], .rd true [.d, .d]], (.one false [.d])⟩
noncomputable def E_sl05Has : TEnv := envOf []
noncomputable def f_sl05Has (n : Nat) : (List (Int × Int)) × (Int × Int) → Option ((Bool) × Unit) := runFn n E_sl05Has c_sl05Has [[.sl [.i .i64, .i .i64]], [.i .i64, .i .i64]] [.b] [] [4] .no
noncomputable def g_sl05Has := f_sl05Has BIG
noncomputable def p_sl05Has : TSp := ⟨s_sl05Has, [[.sl [.i .i64, .i .i64]], [.i .i64, .i .i64]], [.b], [], Ou.j .no, g_sl05Has⟩
theorem k_sl05Has : chkW PG E_sl05Has 103 s_sl05Has (c_sl05Has.ht 18) .no = some (c_sl05Has.wc E_sl05Has, [4]) := by kernel_rfl
theorem ok_sl05Has : p_sl05Has.Ok PG 103 := mkOk (env_nil PG) k_sl05Has (by kernel_rfl)
theorem e_sl05Has (n : Nat) (a0 : List (Int × Int)) (a1 : Int × Int) : f_sl05Has n (a0, a1) =
  Option.bind (loopT n (X := Int) (B := (Unit) ⊕ (Bool)) (fun self1 x0 =>
    bif decide (x0 < (a0.length : Int)) then
     bnd a0.length x0 fun n2 =>
     Option.bind a0[n2]? fun y3 =>
     bif (decide (y3.1 = a1.1) && (decide (y3.2 = a1.2) && true)) then
      some (Sum.inr true)
     else self1 (IntKind.wrap .i64 (x0 + (1 : Int)))
    else some (Sum.inl ())) (0 : Int) : Option ((Unit) ⊕ (Bool))) fun y => match y with
  | .inl x4 =>
   some (false, ())
  | .inr x4 =>
   some (x4, ()) := by kernel_rfl
/- spec.l06Walk -/
def c_sl06Walk : TC :=
 (.seq (.rg [o1 10 (.lit [.sl [.i .i64]] [.slice none 0 0]),
   o1 11 (.lit [.b] [.bool false])])
 (.seq (.rg [o1 17 (.copy 2),
   o1 18 (.sli [.i .i64] [.t 17]),
   ⟨false, [], [], .det 2 (.copy 18), [12, 18], (some 12), none⟩])
 (.seq (.rg [⟨true, [], [], .det 1 (.copy 4), [19], (some 19), none⟩,
   o1 20 (.copy 2),
   o1 21 (.index 19 (.t 20)),
   o4 1 [4, 19] (.store 4 [(0, 1)] 0 (.t 21) (.c [.b] [.bool true]))])
 (.seq (.join [⟨12, [.sl [.i .i64]], false⟩, ⟨4, [.sl [.b]], false⟩] 147573952589672348688 (some [⟨10, [.sl [.i .i64]], false⟩, ⟨11, [.b], false⟩, ⟨4, [.sl [.b]], false⟩]) (.seq (.rg [o1 13 (.lit [.i .i64] [.int .i64 (0)])])
 (.block 0 (.loop [⟨12, [.sl [.i .i64]], false⟩, ⟨4, [.sl [.b]], false⟩, ⟨13, [.i .i64], false⟩] 147573952589674445840
  (.seq (.seq (.rg [o1 22 (.copy 13),
    o1 23 (.copy 0),
    o1 24 (.data (.bin .lss) [.t 22, .t 23])])
  (.cond (.t 24)
   .skip
   (.exit 0)))
  (.seq (.join [⟨12, [.sl [.i .i64]], false⟩, ⟨4, [.sl [.b]], false⟩] 147573952589542317072 (some [⟨10, [.sl [.i .i64]], false⟩, ⟨11, [.b], false⟩, ⟨4, [.sl [.b]], false⟩]) (.block 1 (.seq (.rg [o1 27 (.copy 13),
    o1 28 (.copy 2),
    o1 29 (.build [.i .i64, .i .i64] [(0, .t 27), (1, .t 28)]),
    ⟨false, [], [], .det 2 (.a (.c [.i .i64, .i .i64] [.int .i64 (0), .int .i64 (0)])), [14, 1000000001], (some 14), none⟩,
    o4 1 [14] (.store 14 [] 0 .nil (.t 29))])
  (.seq (.join [⟨14, [.i .i64, .i .i64], false⟩] 67645751296 none (.seq (.rg [o1 30 (.copy 2),
    o1 31 (.copy 13),
    o1 32 (.data (.bin .lss) [.t 30, .t 31])])
  (.cond (.t 32)
   (.rg [o1 33 (.copy 2),
     o1 34 (.copy 13),
     o1 35 (.build [.i .i64, .i .i64] [(0, .t 33), (1, .t 34)]),
     o4 1 [14] (.store 14 [] 0 .nil (.t 35))])
   .skip)))
  (.seq (.seq (.join [⟨44, [.b], false⟩] 35115652612096 none (.rg [o1 36 (.copy 13),
    o1 37 (.copy 3),
    o1 38 (.data (.bin .eql) [.t 36, .t 37]),
    o1 39 (.copy 38),
    o2 40 (.copy 1) 3 false,
    o2 41 (.load 14 [] 0 .nil 2 false) 3 false,
    ⟨false, [], [], .call 1 103 [.t 40, .t 41] .no, [42], (some 42), some (3, false)⟩,
    o2 43 (.data .not [.t 42]) 3 false,
    ⟨false, [], [], .pick 39 (.c (.bool true)) (.t 43), [44], (some 44), none⟩]))
  (.cond (.t 44)
   (.exit 1)
   .skip))
  (.seq (.seq (.rg [⟨true, [], [], .det 1 (.copy 4), [45], (some 45), none⟩,
    o1 46 (.copy 13),
    o1 47 (.index 45 (.t 46)),
    o1 48 (.load 4 [(0, 1)] 0 (.t 47) 1 false)])
  (.cond (.t 48)
   (.seq (.rg [⟨false, [], [], .det 2 (.copy 12), [49, 12], (some 49), none⟩,
     ⟨false, [], [], .det 2 (.copy 49), [10, 49], (some 10), none⟩,
     o1 11 (.lit [.b] [.bool true])])
   .ret)
   .skip))
  (.seq (.rg [o1 51 (.copy 0),
    o1 52 (.copy 1),
    o1 53 (.copy 13),
    o1 54 (.copy 2),
    ⟨true, [], [], .det 1 (.copy 4), [55], (some 55), none⟩,
    ⟨false, [], [], .call 2 48 [.t 51, .t 52, .t 53, .t 54, .t 55] (.mt 4 [] 0 55 4), [56, 4, 45, 47, 55], (some 56), none⟩,
    ⟨false, [], [], .det 2 (.copy 56), [50, 56], (some 50), none⟩,
    ⟨false, [], [], .det 2 (.ext 50 0 1), [57, 50], (some 57), none⟩,
    o1 58 (.ext 50 1 1),
    ⟨false, [], [], .det 2 (.copy 57), [15, 57], (some 15), none⟩,
    o1 16 (.copy 58)])
  (.seq (.seq (.rg [o1 59 (.copy 16)])
  (.cond (.t 59)
   (.seq (.rg [⟨false, [], [], .det 2 (.copy 12), [60, 12], (some 60), none⟩,
     ⟨false, [], [], .det 2 (.copy 60), [10, 60], (some 10), none⟩,
     o1 11 (.lit [.b] [.bool true])])
   .ret)
   .skip))
  (.rg [⟨false, [], [], .det 2 (.copy 12), [61, 12], (some 61), none⟩,
    ⟨false, [], [], .det 2 (.copy 15), [62, 15], (some 62), none⟩,
    ⟨false, [], [], .det 2 (.app (some 61) 62), [63, 61], (some 63), none⟩,
    o1 64 (.copy 2),
    o1 65 (.sli [.i .i64] [.t 64]),
    ⟨false, [], [], .det 2 (.app (some 63) 65), [66, 63], (some 66), none⟩,
    ⟨false, [], [], .det 2 (.copy 66), [12, 66], (some 12), none⟩])))))))))
  (.rg [o1 25 (.copy 13),
    o1 26 (.data (.bin .add) [.t 25, .c (.int .i64 (1))]),
    o1 13 (.copy 26)])))))))
 (.seq (.rg [⟨false, [], [], .det 2 (.copy 12), [67, 12], (some 67), none⟩,
   ⟨false, [], [], .det 2 (.copy 67), [10, 67], (some 10), none⟩,
   o1 11 (.lit [.b] [.bool false])])
 .ret)))))
def s_sl06Walk : Sig := ⟨[.rd false [.d], .rd false [.sl (.own none) [.d, .d]], .rd false [.d], .rd false [.d], .mt false [.sl (.own none) [.d]]], (.tup [(false, 1), (false, 1)] [.sl (.own none) [.d], .d])⟩
noncomputable def E_sl06Walk (q : Int × (List (Int × Int)) × Int × Int × List (Bool) → Option ((List (Int) × Bool) × List (Bool))) : TEnv := envOf [(103, p_sl05Has), (48, ⟨s_sl06Walk, [[.i .i64], [.sl [.i .i64, .i .i64]], [.i .i64], [.i .i64], [.sl [.b]]], [.sl [.i .i64], .b], [.sl [.b]], Ou.j (.mt 4 4 0), q⟩)]
noncomputable def f_sl06Walk (q : Int × (List (Int × Int)) × Int × Int × List (Bool) → Option ((List (Int) × Bool) × List (Bool))) (n : Nat) : Int × (List (Int × Int)) × Int × Int × List (Bool) → Option ((List (Int) × Bool) × List (Bool)) := runFn n (E_sl06Walk q) c_sl06Walk [[.i .i64], [.sl [.i .i64, .i .i64]], [.i .i64], [.i .i64], [.sl [.b]]] [.sl [.i .i64], .b] [.sl [.b]] [10, 11] (.mt 4 4 0)
noncomputable def g_sl06Walk : Nat → Int × (List (Int × Int)) × Int × Int × List (Bool) → Option ((List (Int) × Bool) × List (Bool))
  | 0 => fun _ => none
  | d + 1 => f_sl06Walk (g_sl06Walk d) BIG
noncomputable def p_sl06Walk (d : Nat) : TSp := ⟨s_sl06Walk, [[.i .i64], [.sl [.i .i64, .i .i64]], [.i .i64], [.i .i64], [.sl [.b]]], [.sl [.i .i64], .b], [.sl [.b]], Ou.j (.mt 4 4 0), (g_sl06Walk d)⟩
theorem k_sl06Walk (q : Int × (List (Int × Int)) × Int × Int × List (Bool) → Option ((List (Int) × Bool) × List (Bool))) : chkW PG (E_sl06Walk q) 48 s_sl06Walk (c_sl06Walk.ht 68) (.mt 4 4 0) = some (c_sl06Walk.wc (E_sl06Walk q), [10, 11]) := by kernel_rfl
theorem ok_sl06Walk : ∀ d : Nat, (p_sl06Walk d).Ok PG 48
  | 0 => fun _ _ _ h => by cases h
  | d + 1 => mkOk (env_cons ok_sl05Has (env_cons (ok_sl06Walk d) (env_nil PG))) (k_sl06Walk _) (by kernel_rfl)
theorem e_sl06Walk (q : Int × (List (Int × Int)) × Int × Int × List (Bool) → Option ((List (Int) × Bool) × List (Bool))) (n : Nat) (a0 : Int) (a1 : List (Int × Int)) (a2 : Int) (a3 : Int) (a4 : List (Bool)) : f_sl06Walk q n (a0, a1, a2, a3, a4) =
  bnd a4.length a2 fun n0 =>
  Option.bind a4[n0]? fun y1 =>
  Option.bind (loopT n (X := (List (Int)) × (List (Bool)) × Int) (B := ((List (Int)) × (List (Bool))) ⊕ ((List (Int)) × Bool × (List (Bool)))) (fun self3 x2 =>
    bif decide (x2.2.2 < a0) then
     Option.bind (Option.bind (bif decide (a2 < x2.2.2) then
        some (a2, x2.2.2)
       else some (x2.2.2, a2) : Option ((Int × Int))) fun x4 =>
      Option.bind (bif decide (x2.2.2 = a3) then
        some true
       else Option.bind (g_sl05Has (a1, x4)) fun r5 =>
       some !r5.1 : Option (Bool)) fun x6 =>
      bif x6 then
       some (Sum.inl (x2.1, x2.2.1))
      else bnd x2.2.1.length x2.2.2 fun n7 =>
      Option.bind x2.2.1[n7]? fun y8 =>
      bif y8 then
       some (Sum.inr (x2.1, true, x2.2.1))
      else Option.bind (q (a0, a1, x2.2.2, a2, x2.2.1)) fun r9 =>
      bif r9.1.2 then
       some (Sum.inr (x2.1, true, r9.2))
      else bif decide (x2.1.length + r9.1.1.length ≤ 4294967296) then
       bif decide ((x2.1 ++ r9.1.1).length + [a2].length ≤ 4294967296) then
        some (Sum.inl ((x2.1 ++ r9.1.1) ++ [a2], r9.2))
       else none
      else none : Option (((List (Int)) × (List (Bool))) ⊕ ((List (Int)) × Bool × (List (Bool))))) fun y => match y with
     | .inl x10 =>
      self3 (x10.1, x10.2, IntKind.wrap .i64 (x2.2.2 + (1 : Int)))
     | .inr x10 =>
      some (Sum.inr (x10.1, x10.2.1, x10.2.2))
    else some (Sum.inl (x2.1, x2.2.1))) ([a2], a4.set n0 true, (0 : Int)) : Option (((List (Int)) × (List (Bool))) ⊕ ((List (Int)) × Bool × (List (Bool))))) fun y => match y with
  | .inl x11 =>
   some ((x11.1, false), x11.2)
  | .inr x11 =>
   some ((x11.1, x11.2.1), x11.2.2) := by kernel_rfl
/- spec.TourOf -/
def c_sTourOf : TC :=
 (.seq (.rg [o1 6 (.lit [.sl [.i .i64]] [.slice none 0 0]),
   o1 7 (.lit [.b] [.bool false])])
 (.seq (.seq (.join [⟨20, [.b], false⟩] 2095104 none (.rg [o1 11 (.copy 0),
   o3 12 46 [.t 11, .c [.i .i64] [.int .i64 (1)], .c [.i .i64] [.int .i64 (12)]],
   o1 13 (.data .not [.t 12]),
   o1 14 (.copy 13),
   o2 15 (.copy 2) 3 false,
   o2 16 (.copy 0) 3 false,
   o2 17 (.data (.bin .sub) [.t 16, .c (.int .i64 (1))]) 3 false,
   ⟨false, [], [], .call 1 46 [.t 15, .c [.i .i64] [.int .i64 (0)], .t 17] .no, [18], (some 18), some (3, false)⟩,
   o2 19 (.data .not [.t 18]) 3 false,
   ⟨false, [], [], .pick 14 (.c (.bool true)) (.t 19), [20], (some 20), none⟩]))
 (.cond (.t 20)
  (.seq (.rg [o1 21 (.sli [.i .i64] []),
    ⟨false, [], [], .det 2 (.copy 21), [6, 21], (some 6), none⟩,
    o1 7 (.lit [.b] [.bool false])])
  .ret)
  .skip))
 (.seq (.join [] 68715282880 (some [⟨6, [.sl [.i .i64]], false⟩, ⟨7, [.b], false⟩]) (.seq (.rg [o1 8 (.lit [.i .i64] [.int .i64 (0)])])
 (.block 0 (.loop [⟨8, [.i .i64], false⟩] 68715282880
  (.seq (.seq (.rg [o1 22 (.copy 8),
    o1 23 (.copy 1),
    o1 24 (.len 23),
    o1 25 (.data (.bin .lss) [.t 22, .t 24])])
  (.cond (.t 25)
   .skip
   (.exit 0)))
  (.seq (.block 1 (.seq (.rg [o1 28 (.copy 0),
    o1 29 (.copy 1),
    o1 30 (.copy 8),
    o1 31 (.index 29 (.t 30)),
    o1 32 (.load 29 [(0, 2)] 0 (.t 31) 2 false),
    o3 33 47 [.t 28, .t 32],
    o1 34 (.data .not [.t 33])])
  (.cond (.t 34)
   (.seq (.rg [o1 35 (.sli [.i .i64] []),
     ⟨false, [], [], .det 2 (.copy 35), [6, 35], (some 6), none⟩,
     o1 7 (.lit [.b] [.bool false])])
   .ret)
   .skip)))
  (.rg [o1 26 (.copy 8),
    o1 27 (.data (.bin .add) [.t 26, .c (.int .i64 (1))]),
    o1 8 (.copy 27)])))))))
 (.seq (.rg [o1 37 (.copy 0),
   o1 38 (.copy 1),
   o1 39 (.copy 2),
   o1 40 (.copy 0),
   o1 41 (.make (.t 40) [.b]),
   ⟨false, [], [], .call 2 48 [.t 37, .t 38, .t 39, .c [.i .i64] [.int .i64 (-1)], .t 41] (.mt 41 [] 0 41 4), [42, 41], (some 42), none⟩,
   ⟨false, [], [], .det 2 (.copy 42), [36, 42], (some 36), none⟩,
   ⟨false, [], [], .det 2 (.ext 36 0 1), [43, 36], (some 43), none⟩,
   o1 44 (.ext 36 1 1),
   ⟨false, [], [], .det 2 (.copy 43), [9, 43], (some 9), none⟩,
   o1 10 (.copy 44)])
 (.seq (.seq (.rg [o1 45 (.copy 10)])
 (.cond (.t 45)
  (.seq (.rg [o1 46 (.sli [.i .i64] []),
    ⟨false, [], [], .det 2 (.copy 46), [6, 46], (some 6), none⟩,
    o1 7 (.lit [.b] [.bool false])])
  .ret)
  .skip))
 (.seq (.rg [⟨false, [], [], .det 2 (.copy 9), [47, 9], (some 47), none⟩,
   ⟨false, [], [], .det 2 (.copy 47), [6, 47], (some 6), none⟩,
   o1 7 (.lit [.b] [.bool true])])
 .ret))))))
def s_sTourOf : Sig := ⟨[.rd false [.d], .rd false [.sl (.own none) [.d, .d]], .rd false [.d]], (.tup [(false, 1), (false, 1)] [.sl (.own none) [.d], .d])⟩
noncomputable def E_sTourOf : TEnv := envOf [(46, p_sl01In), (47, p_sEdgeOk), (48, p_sl06Walk 64)]
noncomputable def f_sTourOf (n : Nat) : Int × (List (Int × Int)) × Int → Option ((List (Int) × Bool) × Unit) := runFn n E_sTourOf c_sTourOf [[.i .i64], [.sl [.i .i64, .i .i64]], [.i .i64]] [.sl [.i .i64], .b] [] [6, 7] .no
noncomputable def g_sTourOf := f_sTourOf BIG
noncomputable def p_sTourOf : TSp := ⟨s_sTourOf, [[.i .i64], [.sl [.i .i64, .i .i64]], [.i .i64]], [.sl [.i .i64], .b], [], Ou.j .no, g_sTourOf⟩
theorem k_sTourOf : chkW PG E_sTourOf 11 s_sTourOf (c_sTourOf.ht 48) .no = some (c_sTourOf.wc E_sTourOf, [6, 7]) := by kernel_rfl
theorem ok_sTourOf : p_sTourOf.Ok PG 11 := mkOk (env_cons ok_sl01In (env_cons ok_sEdgeOk (env_cons (ok_sl06Walk 64) (env_nil PG)))) k_sTourOf (by kernel_rfl)
theorem e_sTourOf (n : Nat) (a0 : Int) (a1 : List (Int × Int)) (a2 : Int) : f_sTourOf n (a0, a1, a2) =
  Option.bind (Option.bind (g_sl01In (a0, (1 : Int), (12 : Int))) fun r0 =>
   bif !r0.1 then
    some true
   else Option.bind (g_sl01In (a2, (0 : Int), IntKind.wrap .i64 (a0 - (1 : Int)))) fun r1 =>
   some !r1.1 : Option (Bool)) fun x2 =>
  bif x2 then
   some (([], false), ())
  else Option.bind (loopT n (X := Int) (B := (Unit) ⊕ ((List (Int)) × Bool)) (fun self4 x3 =>
    bif decide (x3 < (a1.length : Int)) then
     bnd a1.length x3 fun n5 =>
     Option.bind a1[n5]? fun y6 =>
     Option.bind (g_sEdgeOk (a0, y6)) fun r7 =>
     bif !r7.1 then
      some (Sum.inr ([], false))
     else self4 (IntKind.wrap .i64 (x3 + (1 : Int)))
    else some (Sum.inl ())) (0 : Int) : Option ((Unit) ⊕ ((List (Int)) × Bool))) fun y => match y with
  | .inl x8 =>
   bif decide (0 ≤ a0) then
    bif decide ((Int.toNat a0) ≤ 4294967296) then
     Option.bind (g_sl06Walk 64 (a0, a1, a2, (-1 : Int), List.replicate (Int.toNat a0) false)) fun r9 =>
     bif r9.1.2 then
      some (([], false), ())
     else some ((r9.1.1, true), ())
    else none
   else none
  | .inr x8 =>
   some (x8, ()) := by kernel_rfl
/- spec.ForestAt -/
def c_sForestAt : TC :=
 (.seq (.rg [o1 2 (.a (.t 0)),
   ⟨false, [], [], .det 2 (.a (.c [.i .i64, .sl [.sl [.i .i64]]] [.int .i64 (0), .slice none 0 0])), [4, 1000000001], (some 4), none⟩,
   o1 5 (.lit [.b] [.bool false])])
 (.seq (.rg [o1 12 (.idx .nil),
   o1 13 (.load 2 [] 0 (.t 12) 1 false),
   o1 14 (.build [.i .i64, .sl [.sl [.i .i64]]] [(0, .t 13)]),
   ⟨false, [], [], .det 2 (.a (.c [.i .i64, .sl [.sl [.i .i64]]] [.int .i64 (0), .slice none 0 0])), [6, 1000000001], (some 6), none⟩,
   ⟨false, [14], [], .det 2 (.store 6 [] 0 .nil (.t 14)), [6, 14, 14], none, none⟩])
 (.seq (.rg [o1 15 (.load 2 [] 0 .nil 2 false),
   o1 16 (.copy 1),
   o3 17 149 [.t 15, .t 16],
   ⟨false, [], [], .det 2 (.copy 17), [7, 17], (some 7), none⟩])
 (.seq (.seq (.rg [o1 18 (.idx .nil),
   o1 19 (.load 2 [] 0 (.t 18) 1 false),
   o3 20 46 [.t 19, .c [.i .i64] [.int .i64 (1)], .c [.i .i64] [.int .i64 (12)]],
   o1 21 (.data .not [.t 20])])
 (.cond (.t 21)
  (.seq (.rg [o1 22 (.build [.i .i64, .sl [.sl [.i .i64]]] []),
    ⟨false, [22], [], .det 2 (.store 4 [] 0 .nil (.t 22)), [4, 22, 22], none, none⟩,
    o1 5 (.lit [.b] [.bool false])])
  .ret)
  .skip))
 (.seq (.rg [o1 23 (.sli [.i .i64] []),
   ⟨false, [], [], .det 2 (.copy 23), [8, 23], (some 8), none⟩])
 (.seq (.join [⟨4, [.i .i64, .sl [.sl [.i .i64]]], false⟩, ⟨6, [.i .i64, .sl [.sl [.i .i64]]], false⟩] 9007199237967728 (some [⟨4, [.i .i64, .sl [.sl [.i .i64]]], false⟩, ⟨5, [.b], false⟩]) (.seq (.rg [o1 9 (.lit [.i .i64] [.int .i64 (0)])])
 (.block 0 (.loop [⟨4, [.i .i64, .sl [.sl [.i .i64]]], false⟩, ⟨6, [.i .i64, .sl [.sl [.i .i64]]], false⟩, ⟨8, [.sl [.i .i64]], false⟩, ⟨9, [.i .i64], false⟩] 9007199237967728
  (.seq (.seq (.rg [o1 24 (.copy 9),
    o1 25 (.idx .nil),
    o1 26 (.load 2 [] 0 (.t 25) 1 false),
    o1 27 (.data (.bin .lss) [.t 24, .t 26])])
  (.cond (.t 27)
   .skip
   (.exit 0)))
  (.seq (.join [⟨4, [.i .i64, .sl [.sl [.i .i64]]], false⟩, ⟨6, [.i .i64, .sl [.sl [.i .i64]]], false⟩, ⟨8, [.sl [.i .i64]], false⟩] 9007198181002608 (some [⟨4, [.i .i64, .sl [.sl [.i .i64]]], false⟩, ⟨5, [.b], false⟩]) (.block 1 (.seq (.seq (.rg [⟨true, [], [], .det 1 (.copy 8), [30], (some 30), none⟩,
    o1 31 (.copy 9),
    o3 32 150 [.t 30, .t 31]])
  (.cond (.t 32)
   (.exit 1)
   .skip))
  (.seq (.rg [o1 34 (.idx .nil),
    o1 35 (.load 2 [] 0 (.t 34) 1 false),
    ⟨true, [], [], .det 1 (.copy 7), [36], (some 36), none⟩,
    o1 37 (.copy 9),
    o3 38 11 [.t 35, .t 36, .t 37],
    ⟨false, [], [], .det 2 (.copy 38), [33, 38], (some 33), none⟩,
    ⟨false, [], [], .det 2 (.ext 33 0 1), [39, 33], (some 39), none⟩,
    o1 40 (.ext 33 1 1),
    ⟨false, [], [], .det 2 (.copy 39), [10, 39], (some 10), none⟩,
    o1 11 (.copy 40)])
  (.seq (.seq (.rg [o1 41 (.copy 11),
    o1 42 (.data .not [.t 41])])
  (.cond (.t 42)
   (.seq (.rg [o1 43 (.build [.i .i64, .sl [.sl [.i .i64]]] []),
     ⟨false, [43], [], .det 2 (.store 4 [] 0 .nil (.t 43)), [4, 43, 43], none, none⟩,
     o1 5 (.lit [.b] [.bool false])])
   .ret)
   .skip))
  (.seq (.rg [o1 44 (.idx .nil),
    o1 45 (.load 6 [] 1 (.t 44) 1 true),
    ⟨true, [10], [], .det 1 (.copy 10), [46, 10], (some 46), none⟩,
    o1 47 (.sli [.sl [.i .i64]] [.t 46]),
    ⟨false, [45], [], .det 2 (.app (some 45) 47), [48, 45, 45, 6], (some 48), none⟩,
    o1 49 (.idx .nil),
    o4 2 [6, 48, 45] (.store 6 [] 1 (.t 49) (.t 48))])
  (.rg [⟨false, [], [], .det 2 (.copy 8), [50, 8, 30], (some 50), none⟩,
    o1 51 (.copy 10),
    ⟨false, [], [], .det 2 (.app (some 50) 51), [52, 50], (some 52), none⟩,
    ⟨false, [], [], .det 2 (.copy 52), [8, 52, 30], (some 8), none⟩])))))))
  (.rg [o1 28 (.copy 9),
    o1 29 (.data (.bin .add) [.t 28, .c (.int .i64 (1))]),
    o1 9 (.copy 29)])))))))
 (.seq (.rg [o1 53 (.load 6 [] 0 .nil 2 true),
   ⟨false, [53], [], .det 2 (.store 4 [] 0 .nil (.t 53)), [4, 53, 53, 6], none, none⟩,
   o1 5 (.lit [.b] [.bool true])])
 .ret)))))))
def s_sForestAt : Sig := ⟨[.rd true [.d, .sl (.own none) [.d, .d, .d, .d]], .rd false [.d]], (.tup [(true, 2), (false, 1)] [.d, .sl (.own none) [.sl (.ro []) [.d]], .d])⟩
noncomputable def E_sForestAt : TEnv := envOf [(149, p_sl08Tree), (46, p_sl01In), (150, p_sl05In), (11, p_sTourOf)]
noncomputable def f_sForestAt (n : Nat) : (Int × List (Int × Int × Int × Bool)) × Int → Option ((Int × List (List (Int)) × Bool) × Unit) := runFn n E_sForestAt c_sForestAt [[.i .i64, .sl [.i .i64, .i .i64, .i .i64, .b]], [.i .i64]] [.i .i64, .sl [.sl [.i .i64]], .b] [] [4, 5] .no
noncomputable def g_sForestAt := f_sForestAt BIG
noncomputable def p_sForestAt : TSp := ⟨s_sForestAt, [[.i .i64, .sl [.i .i64, .i .i64, .i .i64, .b]], [.i .i64]], [.i .i64, .sl [.sl [.i .i64]], .b], [], Ou.j .no, g_sForestAt⟩
theorem k_sForestAt : chkW PG E_sForestAt 132 s_sForestAt (c_sForestAt.ht 54) .no = some (c_sForestAt.wc E_sForestAt, [4, 5]) := by kernel_rfl
theorem ok_sForestAt : p_sForestAt.Ok PG 132 := mkOk (env_cons ok_sl08Tree (env_cons ok_sl01In (env_cons ok_sl05In (env_cons ok_sTourOf (env_nil PG))))) k_sForestAt (by kernel_rfl)
theorem e_sForestAt (n : Nat) (a0 : Int × List (Int × Int × Int × Bool)) (a1 : Int) : f_sForestAt n (a0, a1) =
  Option.bind (g_sl08Tree (a0, a1)) fun r0 =>
  Option.bind (g_sl01In (a0.1, (1 : Int), (12 : Int))) fun r1 =>
  bif !r1.1 then
   some (((0 : Int), [], false), ())
  else Option.bind (loopT n (X := (Int × List ((List (Int)))) × (Int × List ((List (Int)))) × (List (Int)) × Int) (B := ((Int × List ((List (Int)))) × (Int × List ((List (Int))))) ⊕ ((Int × List ((List (Int)))) × Bool)) (fun self3 x2 =>
    bif decide (x2.2.2.2 < a0.1) then
     Option.bind (Option.bind (g_sl05In (x2.2.2.1, x2.2.2.2)) fun r4 =>
      bif r4.1 then
       some (Sum.inl (x2.1, x2.2.1, x2.2.2.1))
      else Option.bind (g_sTourOf (a0.1, r0.1, x2.2.2.2)) fun r5 =>
      bif !r5.1.2 then
       some (Sum.inr (((0 : Int), []), false))
      else bif decide (x2.2.1.2.length + [r5.1.1].length ≤ 4294967296) then
       bif decide (x2.2.2.1.length + r5.1.1.length ≤ 4294967296) then
        some (Sum.inl (x2.1, (x2.2.1.1, x2.2.1.2 ++ [r5.1.1]), x2.2.2.1 ++ r5.1.1))
       else none
      else none : Option (((Int × List ((List (Int)))) × (Int × List ((List (Int)))) × (List (Int))) ⊕ ((Int × List ((List (Int)))) × Bool))) fun y => match y with
     | .inl x6 =>
      self3 (x6.1, x6.2.1, x6.2.2, IntKind.wrap .i64 (x2.2.2.2 + (1 : Int)))
     | .inr x6 =>
      some (Sum.inr (x6.1, x6.2))
    else some (Sum.inl (x2.1, x2.2.1))) (((0 : Int), []), (a0.1, []), [], (0 : Int)) : Option (((Int × List ((List (Int)))) × (Int × List ((List (Int))))) ⊕ ((Int × List ((List (Int)))) × Bool))) fun y => match y with
  | .inl x7 =>
   some ((x7.2.1, x7.2.2, true), ())
  | .inr x7 =>
   some ((x7.1.1, x7.1.2, x7.2), ()) := by kernel_rfl
/- spec.VertsOf -/
def c_sVertsOf : TC :=
 (.seq (.rg [o1 2 (.lit [.sl [.i .i64]] [.slice none 0 0])])
 (.seq (.rg [o1 5 (.sli [.i .i64] []),
   ⟨false, [], [], .det 2 (.copy 5), [3, 5], (some 3), none⟩])
 (.seq (.join [⟨3, [.sl [.i .i64]], false⟩] 131032 none (.seq (.rg [o1 4 (.lit [.i .i64] [.int .i64 (0)])])
 (.block 0 (.loop [⟨3, [.sl [.i .i64]], false⟩, ⟨4, [.i .i64], false⟩] 131032
  (.seq (.seq (.rg [o1 6 (.copy 4),
    o1 7 (.data (.bin .lss) [.t 6, .c (.int .i64 (12))])])
  (.cond (.t 7)
   .skip
   (.exit 0)))
  (.seq (.join [⟨3, [.sl [.i .i64]], false⟩] 130056 none (.block 1 (.seq (.rg [o1 10 (.copy 0),
    o1 11 (.copy 4),
    o3 12 150 [.t 10, .t 11]])
  (.cond (.t 12)
   (.rg [⟨false, [], [], .det 2 (.copy 3), [13, 3], (some 13), none⟩,
     o1 14 (.copy 4),
     o1 15 (.sli [.i .i64] [.t 14]),
     ⟨false, [], [], .det 2 (.app (some 13) 15), [16, 13], (some 16), none⟩,
     ⟨false, [], [], .det 2 (.copy 16), [3, 16], (some 3), none⟩])
   .skip))))
  (.rg [o1 8 (.copy 4),
    o1 9 (.data (.bin .add) [.t 8, .c (.int .i64 (1))]),
    o1 4 (.copy 9)])))))))
 (.seq (.rg [⟨false, [], [], .det 2 (.copy 3), [17, 3], (some 17), none⟩,
   ⟨false, [], [], .det 2 (.copy 17), [2, 17], (some 2), none⟩])
 .ret))))
def s_sVertsOf : Sig := ⟨[.rd false [.sl (.own none) [.d]]], (.one false [.sl (.own none) [.d]])⟩
noncomputable def E_sVertsOf : TEnv := envOf [(150, p_sl05In)]
noncomputable def f_sVertsOf (n : Nat) : List (Int) → Option ((List (Int)) × Unit) := runFn n E_sVertsOf c_sVertsOf [[.sl [.i .i64]]] [.sl [.i .i64]] [] [2] .no
noncomputable def g_sVertsOf := f_sVertsOf BIG
noncomputable def p_sVertsOf : TSp := ⟨s_sVertsOf, [[.sl [.i .i64]]], [.sl [.i .i64]], [], Ou.j .no, g_sVertsOf⟩
theorem k_sVertsOf : chkW PG E_sVertsOf 133 s_sVertsOf (c_sVertsOf.ht 18) .no = some (c_sVertsOf.wc E_sVertsOf, [2]) := by kernel_rfl
theorem ok_sVertsOf : p_sVertsOf.Ok PG 133 := mkOk (env_cons ok_sl05In (env_nil PG)) k_sVertsOf (by kernel_rfl)
theorem e_sVertsOf (n : Nat) (a0 : List (Int)) : f_sVertsOf n a0 =
  Option.bind (loopT n (X := (List (Int)) × Int) (B := (List (Int))) (fun self1 x0 =>
    bif decide (x0.2 < (12 : Int)) then
     Option.bind (Option.bind (g_sl05In (a0, x0.2)) fun r2 =>
      bif r2.1 then
       bif decide (x0.1.length + [x0.2].length ≤ 4294967296) then
        some (x0.1 ++ [x0.2])
       else none
      else some x0.1 : Option ((List (Int)))) fun x3 =>
     self1 (x3, IntKind.wrap .i64 (x0.2 + (1 : Int)))
    else some x0.1) ([], (0 : Int)) : Option ((List (Int)))) fun x4 =>
  some (x4, ()) := by kernel_rfl
/- spec.l06Open -/
def c_sl06Open : TC :=
 (.seq (.rg [o1 2 (.lit [.b] [.bool false])])
 (.seq (.rg [o1 6 (.copy 0),
   o1 7 (.index 6 (.c (.int .i64 (0)))),
   o1 8 (.load 6 [(0, 1)] 0 (.t 7) 1 false),
   o1 9 (.sli [.i .i64] [.t 8]),
   ⟨false, [], [], .det 2 (.copy 9), [3, 9], (some 3), none⟩])
 (.seq (.rg [o1 10 (.copy 0),
   o1 11 (.index 10 (.c (.int .i64 (0)))),
   o1 12 (.load 10 [(0, 1)] 0 (.t 11) 1 false),
   o1 13 (.sli [.i .i64] [.t 12]),
   ⟨false, [], [], .det 2 (.copy 13), [4, 13], (some 4), none⟩])
 (.seq (.join [⟨3, [.sl [.i .i64]], false⟩] 2305843009213677628 (some [⟨2, [.b], false⟩]) (.seq (.rg [o1 5 (.lit [.i .i64] [.int .i64 (1)])])
 (.block 0 (.loop [⟨3, [.sl [.i .i64]], false⟩, ⟨4, [.sl [.i .i64]], false⟩, ⟨5, [.i .i64], false⟩] 2305843009213677628
  (.seq (.seq (.rg [o1 14 (.copy 5),
    o1 15 (.copy 0),
    o1 16 (.len 15),
    o1 17 (.data (.bin .lss) [.t 14, .t 16])])
  (.cond (.t 17)
   .skip
   (.exit 0)))
  (.seq (.join [⟨3, [.sl [.i .i64]], false⟩, ⟨4, [.sl [.i .i64]], false⟩] 2305843009212645404 (some [⟨2, [.b], false⟩]) (.block 1 (.seq (.seq (.join [⟨35, [.b], false⟩] 68718428160 none (.rg [⟨true, [], [], .det 1 (.copy 3), [20], (some 20), none⟩,
    o1 21 (.len 20),
    o1 22 (.data (.bin .gtr) [.t 21, .c (.int .i64 (1))]),
    o1 23 (.copy 22),
    o2 24 (.copy 0) 3 true,
    o2 25 (.copy 5) 3 true,
    o2 26 (.index 24 (.t 25)) 3 true,
    o2 27 (.load 24 [(0, 1)] 0 (.t 26) 1 false) 3 true,
    ⟨true, [], [], .det 1 (.copy 3), [28], (some 28), some (3, true)⟩,
    ⟨true, [], [], .det 1 (.copy 3), [29], (some 29), some (3, true)⟩,
    o2 30 (.len 29) 3 true,
    o2 31 (.data (.bin .sub) [.t 30, .c (.int .i64 (2))]) 3 true,
    o2 32 (.index 28 (.t 31)) 3 true,
    o2 33 (.load 3 [(0, 1)] 0 (.t 32) 1 false) 3 true,
    o2 34 (.data (.bin .eql) [.t 27, .t 33]) 3 true,
    ⟨false, [], [], .pick 23 (.t 34) (.c (.bool false)), [35], (some 35), none⟩]))
  (.cond (.t 35)
   (.seq (.rg [⟨true, [], [], .det 1 (.copy 3), [36], (some 36), none⟩,
     ⟨true, [], [], .det 1 (.copy 3), [37], (some 37), none⟩,
     o1 38 (.len 37),
     o1 39 (.data (.bin .sub) [.t 38, .c (.int .i64 (1))]),
     ⟨true, [36], [], .det 2 (.res 36 none (some (.t 39))), [40, 36, 36, 3, 20, 37], (some 40), none⟩,
     ⟨false, [], [], .det 2 (.copy 40), [3, 40, 20, 37, 36], (some 3), none⟩])
   (.exit 1))
   .skip))
  (.seq (.seq (.rg [⟨true, [], [], .det 1 (.copy 4), [41], (some 41), none⟩,
    o1 42 (.copy 0),
    o1 43 (.copy 5),
    o1 44 (.index 42 (.t 43)),
    o1 45 (.load 42 [(0, 1)] 0 (.t 44) 1 false),
    o3 46 150 [.t 41, .t 45]])
  (.cond (.t 46)
   (.seq (.rg [o1 2 (.lit [.b] [.bool false])])
   .ret)
   .skip))
  (.seq (.rg [⟨false, [], [], .det 2 (.copy 4), [47, 4, 41], (some 47), none⟩,
    o1 48 (.copy 0),
    o1 49 (.copy 5),
    o1 50 (.index 48 (.t 49)),
    o1 51 (.load 48 [(0, 1)] 0 (.t 50) 1 false),
    o1 52 (.sli [.i .i64] [.t 51]),
    ⟨false, [], [], .det 2 (.app (some 47) 52), [53, 47], (some 53), none⟩,
    ⟨false, [], [], .det 2 (.copy 53), [4, 53, 41], (some 4), none⟩])
  (.rg [⟨false, [], [], .det 2 (.copy 3), [54, 3, 20], (some 54), none⟩,
    o1 55 (.copy 0),
    o1 56 (.copy 5),
    o1 57 (.index 55 (.t 56)),
    o1 58 (.load 55 [(0, 1)] 0 (.t 57) 1 false),
    o1 59 (.sli [.i .i64] [.t 58]),
    ⟨false, [], [], .det 2 (.app (some 54) 59), [60, 54], (some 60), none⟩,
    ⟨false, [], [], .det 2 (.copy 60), [3, 60, 20], (some 3), none⟩]))))))
  (.rg [o1 18 (.copy 5),
    o1 19 (.data (.bin .add) [.t 18, .c (.int .i64 (1))]),
    o1 5 (.copy 19)])))))))
 (.seq (.rg [⟨false, [], [], .det 2 (.copy 3), [61, 3], (some 61), none⟩,
   o1 62 (.len 61),
   o1 63 (.data (.bin .eql) [.t 62, .c (.int .i64 (1))]),
   o1 2 (.copy 63)])
 .ret)))))
def s_sl06Open : Sig := ⟨[.rd false [.sl (.own none) [.d]]], (.one false [.d])⟩
noncomputable def E_sl06Open : TEnv := envOf [(150, p_sl05In)]
noncomputable def f_sl06Open (n : Nat) : List (Int) → Option ((Bool) × Unit) := runFn n E_sl06Open c_sl06Open [[.sl [.i .i64]]] [.b] [] [2] .no
noncomputable def g_sl06Open := f_sl06Open BIG
noncomputable def p_sl06Open : TSp := ⟨s_sl06Open, [[.sl [.i .i64]]], [.b], [], Ou.j .no, g_sl06Open⟩
theorem k_sl06Open : chkW PG E_sl06Open 160 s_sl06Open (c_sl06Open.ht 64) .no = some (c_sl06Open.wc E_sl06Open, [2]) := by kernel_rfl
theorem ok_sl06Open : p_sl06Open.Ok PG 160 := mkOk (env_cons ok_sl05In (env_nil PG)) k_sl06Open (by kernel_rfl)
theorem e_sl06Open (n : Nat) (a0 : List (Int)) : f_sl06Open n a0 =
  bnd a0.length (0 : Int) fun n0 =>
  Option.bind a0[n0]? fun y1 =>
  bnd a0.length (0 : Int) fun n2 =>
  Option.bind a0[n2]? fun y3 =>
  Option.bind (loopT n (X := (List (Int)) × (List (Int)) × Int) (B := ((List (Int))) ⊕ (Bool)) (fun self5 x4 =>
    bif decide (x4.2.2 < (a0.length : Int)) then
     Option.bind (Option.bind (bif decide ((1 : Int) < (x4.1.length : Int)) then
        bnd a0.length x4.2.2 fun n6 =>
        Option.bind a0[n6]? fun y7 =>
        bnd x4.1.length (IntKind.wrap .i64 ((x4.1.length : Int) - (2 : Int))) fun n8 =>
        Option.bind x4.1[n8]? fun y9 =>
        some (decide (y7 = y9))
       else some false : Option (Bool)) fun x10 =>
      bif x10 then
       bif decide (0 ≤ (IntKind.wrap .i64 ((x4.1.length : Int) - (1 : Int)))) then
        bif decide (0 ≤ (Int.toNat (IntKind.wrap .i64 ((x4.1.length : Int) - (1 : Int)))) ∧ (Int.toNat (IntKind.wrap .i64 ((x4.1.length : Int) - (1 : Int)))) ≤ x4.1.length) then
         some (Sum.inl (List.take ((Int.toNat (IntKind.wrap .i64 ((x4.1.length : Int) - (1 : Int)))) - 0) (List.drop 0 x4.1), x4.2.1))
        else none
       else none
      else bnd a0.length x4.2.2 fun n11 =>
      Option.bind a0[n11]? fun y12 =>
      Option.bind (g_sl05In (x4.2.1, y12)) fun r13 =>
      bif r13.1 then
       some (Sum.inr false)
      else bnd a0.length x4.2.2 fun n14 =>
      Option.bind a0[n14]? fun y15 =>
      bif decide (x4.2.1.length + [y15].length ≤ 4294967296) then
       bnd a0.length x4.2.2 fun n16 =>
       Option.bind a0[n16]? fun y17 =>
       bif decide (x4.1.length + [y17].length ≤ 4294967296) then
        some (Sum.inl (x4.1 ++ [y17], x4.2.1 ++ [y15]))
       else none
      else none : Option (((List (Int)) × (List (Int))) ⊕ (Bool))) fun y => match y with
     | .inl x18 =>
      self5 (x18.1, x18.2, IntKind.wrap .i64 (x4.2.2 + (1 : Int)))
     | .inr x18 =>
      some (Sum.inr x18)
    else some (Sum.inl x4.1)) ([y1], [y3], (1 : Int)) : Option (((List (Int))) ⊕ (Bool))) fun y => match y with
  | .inl x19 =>
   some (decide ((x19.length : Int) = (1 : Int)), ())
  | .inr x19 =>
   some (x19, ()) := by kernel_rfl
/- spec.TourOk -/
def c_sTourOk : TC :=
 (.seq (.rg [o1 2 (.lit [.b] [.bool false])])
 (.seq (.seq (.rg [o1 4 (.copy 0),
   o1 5 (.len 4),
   o3 6 46 [.t 5, .c [.i .i64] [.int .i64 (1)], .c [.i .i64] [.int .i64 (23)]],
   o1 7 (.data .not [.t 6])])
 (.cond (.t 7)
  (.seq (.rg [o1 2 (.lit [.b] [.bool false])])
  .ret)
  .skip))
 (.seq (.join [] 1048332 (some [⟨2, [.b], false⟩]) (.seq (.rg [o1 3 (.lit [.i .i64] [.int .i64 (0)])])
 (.block 0 (.loop [⟨3, [.i .i64], false⟩] 1048332
  (.seq (.seq (.rg [o1 8 (.copy 3),
    o1 9 (.copy 0),
    o1 10 (.len 9),
    o1 11 (.data (.bin .lss) [.t 8, .t 10])])
  (.cond (.t 11)
   .skip
   (.exit 0)))
  (.seq (.block 1 (.seq (.rg [o1 14 (.copy 0),
    o1 15 (.copy 3),
    o1 16 (.index 14 (.t 15)),
    o1 17 (.load 14 [(0, 1)] 0 (.t 16) 1 false),
    o3 18 46 [.t 17, .c [.i .i64] [.int .i64 (0)], .c [.i .i64] [.int .i64 (11)]],
    o1 19 (.data .not [.t 18])])
  (.cond (.t 19)
   (.seq (.rg [o1 2 (.lit [.b] [.bool false])])
   .ret)
   .skip)))
  (.rg [o1 12 (.copy 3),
    o1 13 (.data (.bin .add) [.t 12, .c (.int .i64 (1))]),
    o1 3 (.copy 13)])))))))
 (.seq (.rg [o1 20 (.copy 0),
   o3 21 160 [.t 20],
   o1 2 (.copy 21)])
 .ret))))
def s_sTourOk : Sig := ⟨[.rd false [.sl (.own none) [.d]]], (.one false [.d])⟩
noncomputable def E_sTourOk : TEnv := envOf [(46, p_sl01In), (160, p_sl06Open)]
noncomputable def f_sTourOk (n : Nat) : List (Int) → Option ((Bool) × Unit) := runFn n E_sTourOk c_sTourOk [[.sl [.i .i64]]] [.b] [] [2] .no
noncomputable def g_sTourOk := f_sTourOk BIG
noncomputable def p_sTourOk : TSp := ⟨s_sTourOk, [[.sl [.i .i64]]], [.b], [], Ou.j .no, g_sTourOk⟩
theorem k_sTourOk : chkW PG E_sTourOk 159 s_sTourOk (c_sTourOk.ht 22) .no = some (c_sTourOk.wc E_sTourOk, [2]) := by kernel_rfl
theorem ok_sTourOk : p_sTourOk.Ok PG 159 := mkOk (env_cons ok_sl01In (env_cons ok_sl06Open (env_nil PG))) k_sTourOk (by kernel_rfl)
theorem e_sTourOk (n : Nat) (a0 : List (Int)) : f_sTourOk n a0 =
  Option.bind (g_sl01In ((a0.length : Int), (1 : Int), (23 : Int))) fun r0 =>
  bif !r0.1 then
   some (false, ())
  else Option.bind (loopT n (X := Int) (B := (Unit) ⊕ (Bool)) (fun self2 x1 =>
    bif decide (x1 < (a0.length : Int)) then
     bnd a0.length x1 fun n3 =>
     Option.bind a0[n3]? fun y4 =>
     Option.bind (g_sl01In (y4, (0 : Int), (11 : Int))) fun r5 =>
     bif !r5.1 then
      some (Sum.inr false)
     else self2 (IntKind.wrap .i64 (x1 + (1 : Int)))
    else some (Sum.inl ())) (0 : Int) : Option ((Unit) ⊕ (Bool))) fun y => match y with
  | .inl x6 =>
   Option.bind (g_sl06Open a0) fun r7 =>
   some (r7.1, ())
  | .inr x6 =>
   some (x6, ()) := by kernel_rfl
/- spec.ForestOk -/
def c_sForestOk : TC :=
 (.seq (.rg [o1 1 (.a (.t 0)),
   o1 2 (.lit [.b] [.bool false])])
 (.seq (.seq (.join [⟨17, [.b], false⟩] 261888 none (.rg [o1 8 (.idx .nil),
   o1 9 (.load 1 [] 0 (.t 8) 1 false),
   o3 10 46 [.t 9, .c [.i .i64] [.int .i64 (1)], .c [.i .i64] [.int .i64 (12)]],
   o1 11 (.data .not [.t 10]),
   o1 12 (.copy 11),
   o2 13 (.idx .nil) 4 false,
   o2 14 (.load 1 [] 1 (.t 13) 1 false) 4 false,
   o2 15 (.len 14) 4 false,
   o2 16 (.data (.bin .gtr) [.t 15, .c (.int .i64 (12))]) 4 false,
   ⟨false, [], [], .pick 12 (.c (.bool true)) (.t 16), [17], (some 17), none⟩]))
 (.cond (.t 17)
  (.seq (.rg [o1 2 (.lit [.b] [.bool false])])
  .ret)
  .skip))
 (.seq (.rg [o1 3 (.lit [.i .i64] [.int .i64 (0)])])
 (.seq (.join [⟨3, [.i .i64], false⟩] 2475880078570760549797986556 (some [⟨2, [.b], false⟩]) (.seq (.rg [o1 4 (.lit [.i .i64] [.int .i64 (0)])])
 (.block 0 (.loop [⟨3, [.i .i64], false⟩, ⟨4, [.i .i64], false⟩] 2475880078570760549797986556
  (.seq (.seq (.rg [o1 18 (.copy 4),
    o1 19 (.idx .nil),
    o1 20 (.load 1 [] 1 (.t 19) 1 false),
    o1 21 (.len 20),
    o1 22 (.data (.bin .lss) [.t 18, .t 21])])
  (.cond (.t 22)
   .skip
   (.exit 0)))
  (.seq (.join [⟨3, [.i .i64], false⟩] 2475880078570760549764694252 (some [⟨2, [.b], false⟩]) (.block 1 (.seq (.seq (.rg [o1 25 (.idx .nil),
    o1 26 (.load 1 [] 1 (.t 25) 1 false),
    o1 27 (.copy 4),
    o1 28 (.index 26 (.t 27)),
    o1 29 (.load 26 [(0, 1)] 0 (.t 28) 1 false),
    o3 30 159 [.t 29],
    o1 31 (.data .not [.t 30])])
  (.cond (.t 31)
   (.seq (.rg [o1 2 (.lit [.b] [.bool false])])
   .ret)
   .skip))
  (.seq (.rg [o1 32 (.idx .nil),
    o1 33 (.load 1 [] 1 (.t 32) 1 false),
    o1 34 (.copy 4),
    o1 35 (.index 33 (.t 34)),
    o1 36 (.load 33 [(0, 1)] 0 (.t 35) 1 false),
    o3 37 133 [.t 36],
    ⟨false, [], [], .det 2 (.copy 37), [5, 37], (some 5), none⟩])
  (.seq (.rg [o1 38 (.copy 3),
    ⟨true, [], [], .det 1 (.copy 5), [39], (some 39), none⟩,
    o1 40 (.len 39),
    o1 41 (.data (.bin .add) [.t 38, .t 40]),
    o1 3 (.copy 41)])
  (.seq (.seq (.join [⟨69, [.b], false⟩] 1180591616319364792320 none (.rg [⟨true, [], [], .det 1 (.copy 5), [42], (some 42), none⟩,
    ⟨true, [], [], .det 1 (.copy 5), [43], (some 43), none⟩,
    o1 44 (.len 43),
    o1 45 (.data (.bin .sub) [.t 44, .c (.int .i64 (1))]),
    o1 46 (.index 42 (.t 45)),
    o1 47 (.load 5 [(0, 1)] 0 (.t 46) 1 false),
    o1 48 (.idx .nil),
    o1 49 (.load 1 [] 0 (.t 48) 1 false),
    o1 50 (.data (.bin .geq) [.t 47, .t 49]),
    o1 51 (.copy 50),
    o2 52 (.copy 4) 9 false,
    o2 53 (.data (.bin .gtr) [.t 52, .c (.int .i64 (0))]) 9 false,
    o2 54 (.copy 53) 9 false,
    o2 55 (.idx .nil) 12 true,
    o2 56 (.load 1 [] 1 (.t 55) 1 false) 12 true,
    o2 57 (.copy 4) 12 true,
    o2 58 (.data (.bin .sub) [.t 57, .c (.int .i64 (1))]) 12 true,
    o2 59 (.index 56 (.t 58)) 12 true,
    o2 60 (.load 56 [(0, 1)] 0 (.t 59) 1 false) 12 true,
    ⟨false, [], [], .call 1 133 [.t 60] .no, [61], (some 61), some (12, true)⟩,
    o2 62 (.index 61 (.c (.int .i64 (0)))) 12 true,
    o2 63 (.load 61 [(0, 1)] 0 (.t 62) 1 false) 12 true,
    ⟨true, [], [], .det 1 (.copy 5), [64], (some 64), some (12, true)⟩,
    o2 65 (.index 64 (.c (.int .i64 (0)))) 12 true,
    o2 66 (.load 5 [(0, 1)] 0 (.t 65) 1 false) 12 true,
    o2 67 (.data (.bin .geq) [.t 63, .t 66]) 12 true,
    ⟨false, [], [], .pick 54 (.t 67) (.c (.bool false)), [68], (some 68), some (9, false)⟩,
    ⟨false, [], [], .pick 51 (.c (.bool true)) (.t 68), [69], (some 69), none⟩]))
  (.cond (.t 69)
   (.seq (.rg [o1 2 (.lit [.b] [.bool false])])
   .ret)
   .skip))
  (.seq (.rg [o1 6 (.lit [.i .i64] [.int .i64 (0)])])
  (.block 2 (.loop [⟨6, [.i .i64], false⟩] 2475878897979139832386945220
   (.seq (.seq (.rg [o1 70 (.copy 6),
     o1 71 (.copy 4),
     o1 72 (.data (.bin .lss) [.t 70, .t 71])])
   (.cond (.t 72)
    .skip
    (.exit 2)))
   (.seq (.join [] 2475842299638897592636539012 (some [⟨2, [.b], false⟩]) (.block 3 (.seq (.rg [o1 7 (.lit [.i .i64] [.int .i64 (0)])])
   (.block 4 (.loop [⟨7, [.i .i64], false⟩] 2475842299638897592636539012
    (.seq (.seq (.rg [o1 75 (.copy 7),
      ⟨true, [], [], .det 1 (.copy 5), [76], (some 76), none⟩,
      o1 77 (.len 76),
      o1 78 (.data (.bin .lss) [.t 75, .t 77])])
    (.cond (.t 78)
     .skip
     (.exit 4)))
    (.seq (.block 5 (.seq (.rg [o1 81 (.idx .nil),
      o1 82 (.load 1 [] 1 (.t 81) 1 false),
      o1 83 (.copy 6),
      o1 84 (.index 82 (.t 83)),
      o1 85 (.load 82 [(0, 1)] 0 (.t 84) 1 false),
      ⟨true, [], [], .det 1 (.copy 5), [86], (some 86), none⟩,
      o1 87 (.copy 7),
      o1 88 (.index 86 (.t 87)),
      o1 89 (.load 5 [(0, 1)] 0 (.t 88) 1 false),
      o3 90 150 [.t 85, .t 89]])
    (.cond (.t 90)
     (.seq (.rg [o1 2 (.lit [.b] [.bool false])])
     .ret)
     .skip)))
    (.rg [o1 79 (.copy 7),
      o1 80 (.data (.bin .add) [.t 79, .c (.int .i64 (1))]),
      o1 7 (.copy 80)]))))))))
   (.rg [o1 73 (.copy 6),
     o1 74 (.data (.bin .add) [.t 73, .c (.int .i64 (1))]),
     o1 6 (.copy 74)]))))))))))))
  (.rg [o1 23 (.copy 4),
    o1 24 (.data (.bin .add) [.t 23, .c (.int .i64 (1))]),
    o1 4 (.copy 24)])))))))
 (.seq (.rg [o1 91 (.copy 3),
   o1 92 (.idx .nil),
   o1 93 (.load 1 [] 0 (.t 92) 1 false),
   o1 94 (.data (.bin .eql) [.t 91, .t 93]),
   o1 2 (.copy 94)])
 .ret)))))
def s_sForestOk : Sig := ⟨[.rd true [.d, .sl (.own none) [.sl (.own none) [.d]]]], (.one false [.d])⟩
noncomputable def E_sForestOk : TEnv := envOf [(46, p_sl01In), (159, p_sTourOk), (133, p_sVertsOf), (150, p_sl05In)]
noncomputable def f_sForestOk (n : Nat) : (Int × List (List (Int))) → Option ((Bool) × Unit) := runFn n E_sForestOk c_sForestOk [[.i .i64, .sl [.sl [.i .i64]]]] [.b] [] [2] .no
noncomputable def g_sForestOk := f_sForestOk BIG
noncomputable def p_sForestOk : TSp := ⟨s_sForestOk, [[.i .i64, .sl [.sl [.i .i64]]]], [.b], [], Ou.j .no, g_sForestOk⟩
theorem k_sForestOk : chkW PG E_sForestOk 151 s_sForestOk (c_sForestOk.ht 95) .no = some (c_sForestOk.wc E_sForestOk, [2]) := by kernel_rfl
theorem ok_sForestOk : p_sForestOk.Ok PG 151 := mkOk (env_cons ok_sl01In (env_cons ok_sTourOk (env_cons ok_sVertsOf (env_cons ok_sl05In (env_nil PG))))) k_sForestOk (by kernel_rfl)
theorem e_sForestOk (n : Nat) (a0 : Int × List ((List (Int)))) : f_sForestOk n a0 =
  Option.bind (Option.bind (g_sl01In (a0.1, (1 : Int), (12 : Int))) fun r0 =>
   bif !r0.1 then
    some true
   else some (decide ((12 : Int) < (a0.2.length : Int))) : Option (Bool)) fun x1 =>
  bif x1 then
   some (false, ())
  else Option.bind (loopT n (X := Int × Int) (B := (Int) ⊕ (Bool)) (fun self3 x2 =>
    bif decide (x2.2 < (a0.2.length : Int)) then
     Option.bind (bnd a0.2.length x2.2 fun n4 =>
      Option.bind a0.2[n4]? fun y5 =>
      Option.bind (g_sTourOk y5) fun r6 =>
      bif !r6.1 then
       some (Sum.inr false)
      else bnd a0.2.length x2.2 fun n7 =>
      Option.bind a0.2[n7]? fun y8 =>
      Option.bind (g_sVertsOf y8) fun r9 =>
      Option.bind (bnd r9.1.length (IntKind.wrap .i64 ((r9.1.length : Int) - (1 : Int))) fun n10 =>
       Option.bind r9.1[n10]? fun y11 =>
       bif decide (a0.1 ≤ y11) then
        some true
       else bif decide ((0 : Int) < x2.2) then
        bnd a0.2.length (IntKind.wrap .i64 (x2.2 - (1 : Int))) fun n12 =>
        Option.bind a0.2[n12]? fun y13 =>
        Option.bind (g_sVertsOf y13) fun r14 =>
        bnd r14.1.length (0 : Int) fun n15 =>
        Option.bind r14.1[n15]? fun y16 =>
        bnd r9.1.length (0 : Int) fun n17 =>
        Option.bind r9.1[n17]? fun y18 =>
        some (decide (y18 ≤ y16))
       else some false : Option (Bool)) fun x19 =>
      bif x19 then
       some (Sum.inr false)
      else loopT n (X := Int) (B := (Int) ⊕ (Bool)) (fun self21 x20 =>
       bif decide (x20 < x2.2) then
        Option.bind (loopT n (X := Int) (B := (Unit) ⊕ (Bool)) (fun self23 x22 =>
          bif decide (x22 < (r9.1.length : Int)) then
           bnd a0.2.length x20 fun n24 =>
           Option.bind a0.2[n24]? fun y25 =>
           bnd r9.1.length x22 fun n26 =>
           Option.bind r9.1[n26]? fun y27 =>
           Option.bind (g_sl05In (y25, y27)) fun r28 =>
           bif r28.1 then
            some (Sum.inr false)
           else self23 (IntKind.wrap .i64 (x22 + (1 : Int)))
          else some (Sum.inl ())) (0 : Int) : Option ((Unit) ⊕ (Bool))) fun y => match y with
        | .inl x29 =>
         self21 (IntKind.wrap .i64 (x20 + (1 : Int)))
        | .inr x29 =>
         some (Sum.inr x29)
       else some (Sum.inl (IntKind.wrap .i64 (x2.1 + (r9.1.length : Int))))) (0 : Int) : Option ((Int) ⊕ (Bool))) fun y => match y with
     | .inl x30 =>
      self3 (x30, IntKind.wrap .i64 (x2.2 + (1 : Int)))
     | .inr x30 =>
      some (Sum.inr x30)
    else some (Sum.inl x2.1)) ((0 : Int), (0 : Int)) : Option ((Int) ⊕ (Bool))) fun y => match y with
  | .inl x31 =>
   some (decide (x31 = a0.1), ())
  | .inr x31 =>
   some (x31, ()) := by kernel_rfl
/- spec.TreeOf -/
def c_sTreeOf : TC :=
 (.seq (.rg [o1 2 (.a (.t 0)),
   o1 4 (.lit [.i .i64] [.int .i64 (0)])])
 (.seq (.seq (.rg [o1 6 (.load 2 [] 0 .nil 2 false),
   o3 7 151 [.t 6],
   o1 8 (.data .not [.t 7])])
 (.cond (.t 8)
  (.seq (.rg [o1 4 (.lit [.i .i64] [.int .i64 (-1)])])
  .ret)
  .skip))
 (.seq (.join [] 16776752 (some [⟨4, [.i .i64], false⟩]) (.seq (.rg [o1 5 (.lit [.i .i64] [.int .i64 (0)])])
 (.block 0 (.loop [⟨5, [.i .i64], false⟩] 16776752
  (.seq (.seq (.rg [o1 9 (.copy 5),
    o1 10 (.idx .nil),
    o1 11 (.load 2 [] 1 (.t 10) 1 false),
    o1 12 (.len 11),
    o1 13 (.data (.bin .lss) [.t 9, .t 12])])
  (.cond (.t 13)
   .skip
   (.exit 0)))
  (.seq (.block 1 (.seq (.rg [o1 16 (.idx .nil),
    o1 17 (.load 2 [] 1 (.t 16) 1 false),
    o1 18 (.copy 5),
    o1 19 (.index 17 (.t 18)),
    o1 20 (.load 17 [(0, 1)] 0 (.t 19) 1 false),
    o1 21 (.copy 1),
    o3 22 150 [.t 20, .t 21]])
  (.cond (.t 22)
   (.seq (.rg [o1 23 (.copy 5),
     o1 4 (.copy 23)])
   .ret)
   .skip)))
  (.rg [o1 14 (.copy 5),
    o1 15 (.data (.bin .add) [.t 14, .c (.int .i64 (1))]),
    o1 5 (.copy 15)])))))))
 (.seq (.rg [o1 4 (.lit [.i .i64] [.int .i64 (-1)])])
 .ret))))
def s_sTreeOf : Sig := ⟨[.rd true [.d, .sl (.own none) [.sl (.own none) [.d]]], .rd false [.d]], (.one false [.d])⟩
noncomputable def E_sTreeOf : TEnv := envOf [(151, p_sForestOk), (150, p_sl05In)]
noncomputable def f_sTreeOf (n : Nat) : (Int × List (List (Int))) × Int → Option ((Int) × Unit) := runFn n E_sTreeOf c_sTreeOf [[.i .i64, .sl [.sl [.i .i64]]], [.i .i64]] [.i .i64] [] [4] .no
noncomputable def g_sTreeOf := f_sTreeOf BIG
noncomputable def p_sTreeOf : TSp := ⟨s_sTreeOf, [[.i .i64, .sl [.sl [.i .i64]]], [.i .i64]], [.i .i64], [], Ou.j .no, g_sTreeOf⟩
theorem k_sTreeOf : chkW PG E_sTreeOf 134 s_sTreeOf (c_sTreeOf.ht 24) .no = some (c_sTreeOf.wc E_sTreeOf, [4]) := by kernel_rfl
theorem ok_sTreeOf : p_sTreeOf.Ok PG 134 := mkOk (env_cons ok_sForestOk (env_cons ok_sl05In (env_nil PG))) k_sTreeOf (by kernel_rfl)
theorem e_sTreeOf (n : Nat) (a0 : Int × List ((List (Int)))) (a1 : Int) : f_sTreeOf n (a0, a1) =
  Option.bind (g_sForestOk a0) fun r0 =>
  bif !r0.1 then
   some ((-1 : Int), ())
  else Option.bind (loopT n (X := Int) (B := (Unit) ⊕ (Int)) (fun self2 x1 =>
    bif decide (x1 < (a0.2.length : Int)) then
     bnd a0.2.length x1 fun n3 =>
     Option.bind a0.2[n3]? fun y4 =>
     Option.bind (g_sl05In (y4, a1)) fun r5 =>
     bif r5.1 then
      some (Sum.inr x1)
     else self2 (IntKind.wrap .i64 (x1 + (1 : Int)))
    else some (Sum.inl ())) (0 : Int) : Option ((Unit) ⊕ (Int))) fun y => match y with
  | .inl x6 =>
   some ((-1 : Int), ())
  | .inr x6 =>
   some (x6, ()) := by kernel_rfl
/- spec.WebOk -/
def c_sWebOk : TC :=
 (.seq (.rg [o1 1 (.a (.t 0)),
   o1 2 (.lit [.b] [.bool false])])
 (.seq (.seq (.rg [o1 12 (.load 1 [] 0 .nil 2 false),
   o3 13 131 [.t 12],
   o3 14 18 [.t 13],
   o1 15 (.data .not [.t 14])])
 (.cond (.t 15)
  (.seq (.rg [o1 2 (.lit [.b] [.bool false])])
  .ret)
  .skip))
 (.seq (.join [] 2147418124 (some [⟨2, [.b], false⟩]) (.seq (.rg [o1 3 (.lit [.i .i64] [.int .i64 (0)])])
 (.block 0 (.loop [⟨3, [.i .i64], false⟩] 2147418124
  (.seq (.seq (.rg [o1 16 (.copy 3),
    o1 17 (.idx .nil),
    o1 18 (.load 1 [] 1 (.t 17) 1 false),
    o1 19 (.len 18),
    o1 20 (.data (.bin .lss) [.t 16, .t 19])])
  (.cond (.t 20)
   .skip
   (.exit 0)))
  (.seq (.block 1 (.seq (.rg [o1 23 (.idx .nil),
    o1 24 (.load 1 [] 1 (.t 23) 1 false),
    o1 25 (.copy 3),
    o1 26 (.index 24 (.t 25)),
    o1 27 (.idx (.t 26)),
    o1 28 (.load 24 [(0, 4)] 2 (.t 27) 1 false),
    o3 29 46 [.t 28, .c [.i .i64] [.int .i64 (0)], .c [.i .i64] [.int .i64 (4)]],
    o1 30 (.data .not [.t 29])])
  (.cond (.t 30)
   (.seq (.rg [o1 2 (.lit [.b] [.bool false])])
   .ret)
   .skip)))
  (.rg [o1 21 (.copy 3),
    o1 22 (.data (.bin .add) [.t 21, .c (.int .i64 (1))]),
    o1 3 (.copy 22)])))))))
 (.seq (.rg [o1 31 (.idx .nil),
   o1 32 (.load 1 [] 0 (.t 31) 1 false),
   o1 4 (.copy 32)])
 (.seq (.join [] 1267650600228229401488113274868 (some [⟨2, [.b], false⟩]) (.seq (.rg [o1 5 (.lit [.i .i64] [.int .i64 (0)])])
 (.block 2 (.loop [⟨4, [.i .i64], false⟩, ⟨5, [.i .i64], false⟩] 1267650600228229401488113274868
  (.seq (.seq (.rg [o1 33 (.copy 5),
    o1 34 (.data (.bin .leq) [.t 33, .c (.int .i64 (4))])])
  (.cond (.t 34)
   .skip
   (.exit 2)))
  (.seq (.join [⟨4, [.i .i64], false⟩] 1267650600228229401359264255956 (some [⟨2, [.b], false⟩]) (.block 3 (.seq (.rg [o1 38 (.load 1 [] 0 .nil 2 false),
    o1 39 (.copy 5),
    o3 40 132 [.t 38, .t 39],
    ⟨false, [], [], .det 2 (.copy 40), [37, 40], (some 37), none⟩,
    ⟨false, [], [], .det 2 (.ext 37 0 2), [41, 37], (some 41), none⟩,
    o1 42 (.ext 37 2 1),
    ⟨false, [], [], .det 2 (.a (.c [.i .i64, .sl [.sl [.i .i64]]] [.int .i64 (0), .slice none 0 0])), [6, 1000000001], (some 6), none⟩,
    o4 2 [6, 41] (.store 6 [] 0 .nil (.t 41)),
    o1 7 (.copy 42)])
  (.seq (.seq (.rg [o1 43 (.copy 7),
    o1 44 (.data .not [.t 43])])
  (.cond (.t 44)
   (.seq (.rg [o1 2 (.lit [.b] [.bool false])])
   .ret)
   .skip))
  (.seq (.join [] 73786941110466118404 (some [⟨2, [.b], false⟩]) (.seq (.rg [o1 8 (.lit [.i .i64] [.int .i64 (0)])])
  (.block 4 (.loop [⟨8, [.i .i64], false⟩] 73786941110466118404
   (.seq (.seq (.rg [o1 45 (.copy 8),
     o1 46 (.idx .nil),
     o1 47 (.load 6 [] 1 (.t 46) 1 true),
     o1 48 (.len 47),
     o1 49 (.data (.bin .lss) [.t 45, .t 48])])
   (.cond (.t 49)
    .skip
    (.exit 4)))
   (.seq (.join [] 73782472695210836484 (some [⟨2, [.b], false⟩]) (.block 5 (.seq (.rg [o1 52 (.idx .nil),
     o1 53 (.load 6 [] 1 (.t 52) 1 true),
     o1 54 (.copy 8),
     o1 55 (.index 53 (.t 54)),
     o1 56 (.load 6 [(1, 1)] 0 (.t 55) 1 false),
     o3 57 133 [.t 56],
     o1 58 (.len 57),
     o1 9 (.copy 58)])
   (.seq (.join [⟨65, [.b], false⟩] 73210515542534782976 none (.rg [o1 59 (.copy 9),
     o1 60 (.data (.bin .gtr) [.t 59, .c (.int .i64 (1))]),
     o1 61 (.copy 60),
     o2 62 (.copy 9) 2 true,
     o2 63 (.copy 4) 2 true,
     o2 64 (.data (.bin .gtr) [.t 62, .t 63]) 2 true,
     ⟨false, [], [], .pick 61 (.t 64) (.c (.bool false)), [65], (some 65), none⟩]))
   (.cond (.t 65)
    (.seq (.rg [o1 2 (.lit [.b] [.bool false])])
    .ret)
    .skip)))))
   (.rg [o1 50 (.copy 8),
     o1 51 (.data (.bin .add) [.t 50, .c (.int .i64 (1))]),
     o1 8 (.copy 51)])))))))
  (.seq (.join [] 316912649983270374079337597956 (some [⟨2, [.b], false⟩]) (.seq (.rg [o1 10 (.lit [.i .i64] [.int .i64 (0)])])
  (.block 6 (.loop [⟨10, [.i .i64], false⟩] 316912649983270374079337597956
   (.seq (.seq (.rg [o1 66 (.copy 10),
     o1 67 (.idx .nil),
     o1 68 (.load 1 [] 1 (.t 67) 1 false),
     o1 69 (.len 68),
     o1 70 (.data (.bin .lss) [.t 66, .t 69])])
   (.cond (.t 70)
    .skip
    (.exit 6)))
   (.seq (.join [] 316912640612324384634885376004 (some [⟨2, [.b], false⟩]) (.block 7 (.seq (.rg [o1 73 (.idx .nil),
     o1 74 (.load 1 [] 1 (.t 73) 1 false),
     o1 75 (.copy 10),
     o1 76 (.index 74 (.t 75)),
     o1 77 (.load 74 [(0, 4)] 0 (.t 76) 4 false),
     ⟨false, [], [], .det 2 (.a (.c [.i .i64, .i .i64, .i .i64, .b] [.int .i64 (0), .int .i64 (0), .int .i64 (0), .bool false])), [11, 1000000001], (some 11), none⟩,
     o4 1 [11] (.store 11 [] 0 .nil (.t 77))])
   (.seq (.join [⟨97, [.b], false⟩] 316912347825602446716882124800 none (.rg [o1 78 (.idx .nil),
     o1 79 (.load 11 [] 3 (.t 78) 1 false),
     o1 80 (.data .not [.t 79]),
     o1 81 (.copy 80),
     o2 82 (.idx .nil) 3 true,
     o2 83 (.load 11 [] 2 (.t 82) 1 false) 3 true,
     o2 84 (.copy 5) 3 true,
     o2 85 (.data (.bin .eql) [.t 83, .t 84]) 3 true,
     ⟨false, [], [], .pick 81 (.t 85) (.c (.bool false)), [86], (some 86), none⟩,
     o1 87 (.copy 86),
     o2 88 (.load 6 [] 0 .nil 2 true) 9 true,
     o2 89 (.idx .nil) 9 true,
     o2 90 (.load 11 [] 0 (.t 89) 1 false) 9 true,
     ⟨false, [], [], .call 1 134 [.t 88, .t 90] .no, [91], (some 91), some (9, true)⟩,
     o2 92 (.load 6 [] 0 .nil 2 true) 9 true,
     o2 93 (.idx .nil) 9 true,
     o2 94 (.load 11 [] 1 (.t 93) 1 false) 9 true,
     ⟨false, [], [], .call 1 134 [.t 92, .t 94] .no, [95], (some 95), some (9, true)⟩,
     o2 96 (.data (.bin .neq) [.t 91, .t 95]) 9 true,
     ⟨false, [], [], .pick 87 (.t 96) (.c (.bool false)), [97], (some 97), none⟩]))
   (.cond (.t 97)
    (.seq (.rg [o1 2 (.lit [.b] [.bool false])])
    .ret)
    .skip)))))
   (.rg [o1 71 (.copy 10),
     o1 72 (.data (.bin .add) [.t 71, .c (.int .i64 (1))]),
     o1 10 (.copy 72)])))))))
  (.rg [o1 98 (.copy 4),
    o1 99 (.data (.bin .quo) [.t 98, .c (.int .i64 (2))]),
    o1 4 (.copy 99)])))))))
  (.rg [o1 35 (.copy 5),
    o1 36 (.data (.bin .add) [.t 35, .c (.int .i64 (1))]),
    o1 5 (.copy 36)])))))))
 (.seq (.rg [o1 2 (.lit [.b] [.bool true])])
 .ret))))))
def s_sWebOk : Sig := ⟨[.rd true [.d, .sl (.own none) [.d, .d, .d, .d]]], (.one false [.d])⟩
noncomputable def E_sWebOk : TEnv := envOf [(131, p_sGraphOf), (18, p_sGraphOk), (46, p_sl01In), (132, p_sForestAt), (133, p_sVertsOf), (134, p_sTreeOf)]
noncomputable def f_sWebOk (n : Nat) : (Int × List (Int × Int × Int × Bool)) → Option ((Bool) × Unit) := runFn n E_sWebOk c_sWebOk [[.i .i64, .sl [.i .i64, .i .i64, .i .i64, .b]]] [.b] [] [2] .no
noncomputable def g_sWebOk := f_sWebOk BIG
noncomputable def p_sWebOk : TSp := ⟨s_sWebOk, [[.i .i64, .sl [.i .i64, .i .i64, .i .i64, .b]]], [.b], [], Ou.j .no, g_sWebOk⟩
theorem k_sWebOk : chkW PG E_sWebOk 87 s_sWebOk (c_sWebOk.ht 100) .no = some (c_sWebOk.wc E_sWebOk, [2]) := by kernel_rfl
theorem ok_sWebOk : p_sWebOk.Ok PG 87 := mkOk (env_cons ok_sGraphOf (env_cons ok_sGraphOk (env_cons ok_sl01In (env_cons ok_sForestAt (env_cons ok_sVertsOf (env_cons ok_sTreeOf (env_nil PG))))))) k_sWebOk (by kernel_rfl)
theorem e_sWebOk (n : Nat) (a0 : Int × List (Int × Int × Int × Bool)) : f_sWebOk n a0 =
  Option.bind (g_sGraphOf a0) fun r0 =>
  Option.bind (g_sGraphOk r0.1) fun r1 =>
  bif !r1.1 then
   some (false, ())
  else Option.bind (loopT n (X := Int) (B := (Unit) ⊕ (Bool)) (fun self3 x2 =>
    bif decide (x2 < (a0.2.length : Int)) then
     bnd a0.2.length x2 fun n4 =>
     Option.bind a0.2[n4]? fun y5 =>
     Option.bind (g_sl01In (y5.2.2.1, (0 : Int), (4 : Int))) fun r6 =>
     bif !r6.1 then
      some (Sum.inr false)
     else self3 (IntKind.wrap .i64 (x2 + (1 : Int)))
    else some (Sum.inl ())) (0 : Int) : Option ((Unit) ⊕ (Bool))) fun y => match y with
  | .inl x7 =>
   Option.bind (loopT n (X := Int × Int) (B := (Unit) ⊕ (Bool)) (fun self9 x8 =>
     bif decide (x8.2 ≤ (4 : Int)) then
      Option.bind (Option.bind (g_sForestAt (a0, x8.2)) fun r10 =>
       bif !r10.1.2.2 then
        some (Sum.inr false)
       else Option.bind (loopT n (X := Int) (B := (Unit) ⊕ (Bool)) (fun self12 x11 =>
         bif decide (x11 < (r10.1.2.1.length : Int)) then
          Option.bind (bnd r10.1.2.1.length x11 fun n13 =>
           Option.bind r10.1.2.1[n13]? fun y14 =>
           Option.bind (g_sVertsOf y14) fun r15 =>
           Option.bind (bif decide ((1 : Int) < (r15.1.length : Int)) then
             some (decide (x8.1 < (r15.1.length : Int)))
            else some false : Option (Bool)) fun x16 =>
           bif x16 then
            some (Sum.inr false)
           else some (Sum.inl ()) : Option ((Unit) ⊕ (Bool))) fun y => match y with
          | .inl x17 =>
           self12 (IntKind.wrap .i64 (x11 + (1 : Int)))
          | .inr x17 =>
           some (Sum.inr x17)
         else some (Sum.inl ())) (0 : Int) : Option ((Unit) ⊕ (Bool))) fun y => match y with
       | .inl x18 =>
        Option.bind (loopT n (X := Int) (B := (Unit) ⊕ (Bool)) (fun self20 x19 =>
          bif decide (x19 < (a0.2.length : Int)) then
           Option.bind (bnd a0.2.length x19 fun n21 =>
            Option.bind a0.2[n21]? fun y22 =>
            Option.bind (bif !y22.2.2.2 then
              bif decide (y22.2.2.1 = x8.2) then
               Option.bind (g_sTreeOf ((r10.1.1, r10.1.2.1), y22.1)) fun r23 =>
               Option.bind (g_sTreeOf ((r10.1.1, r10.1.2.1), y22.2.1)) fun r24 =>
               some (!decide (r23.1 = r24.1))
              else some false
             else some false : Option (Bool)) fun x25 =>
            bif x25 then
             some (Sum.inr false)
            else some (Sum.inl ()) : Option ((Unit) ⊕ (Bool))) fun y => match y with
           | .inl x26 =>
            self20 (IntKind.wrap .i64 (x19 + (1 : Int)))
           | .inr x26 =>
            some (Sum.inr x26)
          else some (Sum.inl ())) (0 : Int) : Option ((Unit) ⊕ (Bool))) fun y => match y with
        | .inl x27 =>
         bif decide ((2 : Int) = 0) then
          none
         else some (Sum.inl (IntKind.wrap .i64 (Int.tdiv x8.1 (2 : Int))))
        | .inr x27 =>
         some (Sum.inr x27)
       | .inr x18 =>
        some (Sum.inr x18) : Option ((Int) ⊕ (Bool))) fun y => match y with
      | .inl x28 =>
       self9 (x28, IntKind.wrap .i64 (x8.2 + (1 : Int)))
      | .inr x28 =>
       some (Sum.inr x28)
     else some (Sum.inl ())) (a0.1, (0 : Int)) : Option ((Unit) ⊕ (Bool))) fun y => match y with
   | .inl x29 =>
    some (true, ())
   | .inr x29 =>
    some (x29, ())
  | .inr x7 =>
   some (x7, ()) := by kernel_rfl
/- spec.l05SameEdges -/
def c_sl05SameEdges : TC :=
 (.seq (.rg [o1 4 (.lit [.b] [.bool false])])
 (.seq (.seq (.rg [o1 6 (.copy 0),
   o1 7 (.len 6),
   o1 8 (.copy 1),
   o1 9 (.len 8),
   o1 10 (.data (.bin .neq) [.t 7, .t 9])])
 (.cond (.t 10)
  (.seq (.rg [o1 4 (.lit [.b] [.bool false])])
  .ret)
  .skip))
 (.seq (.join [] 67106864 (some [⟨4, [.b], false⟩]) (.seq (.rg [o1 5 (.lit [.i .i64] [.int .i64 (0)])])
 (.block 0 (.loop [⟨5, [.i .i64], false⟩] 67106864
  (.seq (.seq (.rg [o1 11 (.copy 5),
    o1 12 (.copy 0),
    o1 13 (.len 12),
    o1 14 (.data (.bin .lss) [.t 11, .t 13])])
  (.cond (.t 14)
   .skip
   (.exit 0)))
  (.seq (.block 1 (.seq (.rg [o1 17 (.copy 0),
    o1 18 (.copy 5),
    o1 19 (.index 17 (.t 18)),
    o1 20 (.load 17 [(0, 2)] 0 (.t 19) 2 false),
    o1 21 (.copy 1),
    o1 22 (.copy 5),
    o1 23 (.index 21 (.t 22)),
    o1 24 (.load 21 [(0, 2)] 0 (.t 23) 2 false),
    o1 25 (.eqA [.i, .i] (.t 20) (.t 24) true)])
  (.cond (.t 25)
   (.seq (.rg [o1 4 (.lit [.b] [.bool false])])
   .ret)
   .skip)))
  (.rg [o1 15 (.copy 5),
    o1 16 (.data (.bin .add) [.t 15, .c (.int .i64 (1))]),
    o1 5 (.copy 16)])))))))
 (.seq (.rg [o1 4 (.lit [.b] [.bool true])])
 .ret))))
def s_sl05SameEdges : Sig := ⟨[.rd false [.sl (.own none) [.d, .d]], .rd false [.sl (.own none) [.d, .d]]], (.one false [.d])⟩
noncomputable def E_sl05SameEdges : TEnv := envOf []
noncomputable def f_sl05SameEdges (n : Nat) : (List (Int × Int)) × (List (Int × Int)) → Option ((Bool) × Unit) := runFn n E_sl05SameEdges c_sl05SameEdges [[.sl [.i .i64, .i .i64]], [.sl [.i .i64, .i .i64]]] [.b] [] [4] .no
noncomputable def g_sl05SameEdges := f_sl05SameEdges BIG
noncomputable def p_sl05SameEdges : TSp := ⟨s_sl05SameEdges, [[.sl [.i .i64, .i .i64]], [.sl [.i .i64, .i .i64]]], [.b], [], Ou.j .no, g_sl05SameEdges⟩
theorem k_sl05SameEdges : chkW PG E_sl05SameEdges 152 s_sl05SameEdges (c_sl05SameEdges.ht 26) .no = some (c_sl05SameEdges.wc E_sl05SameEdges, [4]) := by kernel_rfl
theorem ok_sl05SameEdges : p_sl05SameEdges.Ok PG 152 := mkOk (env_nil PG) k_sl05SameEdges (by kernel_rfl)
theorem e_sl05SameEdges (n : Nat) (a0 : List (Int × Int)) (a1 : List (Int × Int)) : f_sl05SameEdges n (a0, a1) =
  bif !decide ((a0.length : Int) = (a1.length : Int)) then
   some (false, ())
  else Option.bind (loopT n (X := Int) (B := (Unit) ⊕ (Bool)) (fun self1 x0 =>
    bif decide (x0 < (a0.length : Int)) then
     bnd a0.length x0 fun n2 =>
     Option.bind a0[n2]? fun y3 =>
     bnd a1.length x0 fun n4 =>
     Option.bind a1[n4]? fun y5 =>
     bif !(decide (y3.1 = y5.1) && (decide (y3.2 = y5.2) && true)) then
      some (Sum.inr false)
     else self1 (IntKind.wrap .i64 (x0 + (1 : Int)))
    else some (Sum.inl ())) (0 : Int) : Option ((Unit) ⊕ (Bool))) fun y => match y with
  | .inl x6 =>
   some (true, ())
  | .inr x6 =>
   some (x6, ()) := by kernel_rfl
/- spec.l05SameInts -/
def c_sl05SameInts : TC :=
 (.seq (.rg [o1 4 (.lit [.b] [.bool false])])
 (.seq (.seq (.rg [o1 6 (.copy 0),
   o1 7 (.len 6),
   o1 8 (.copy 1),
   o1 9 (.len 8),
   o1 10 (.data (.bin .neq) [.t 7, .t 9])])
 (.cond (.t 10)
  (.seq (.rg [o1 4 (.lit [.b] [.bool false])])
  .ret)
  .skip))
 (.seq (.join [] 67106864 (some [⟨4, [.b], false⟩]) (.seq (.rg [o1 5 (.lit [.i .i64] [.int .i64 (0)])])
 (.block 0 (.loop [⟨5, [.i .i64], false⟩] 67106864
  (.seq (.seq (.rg [o1 11 (.copy 5),
    o1 12 (.copy 0),
    o1 13 (.len 12),
    o1 14 (.data (.bin .lss) [.t 11, .t 13])])
  (.cond (.t 14)
   .skip
   (.exit 0)))
  (.seq (.block 1 (.seq (.rg [o1 17 (.copy 0),
    o1 18 (.copy 5),
    o1 19 (.index 17 (.t 18)),
    o1 20 (.load 17 [(0, 1)] 0 (.t 19) 1 false),
    o1 21 (.copy 1),
    o1 22 (.copy 5),
    o1 23 (.index 21 (.t 22)),
    o1 24 (.load 21 [(0, 1)] 0 (.t 23) 1 false),
    o1 25 (.data (.bin .neq) [.t 20, .t 24])])
  (.cond (.t 25)
   (.seq (.rg [o1 4 (.lit [.b] [.bool false])])
   .ret)
   .skip)))
  (.rg [o1 15 (.copy 5),
    o1 16 (.data (.bin .add) [.t 15, .c (.int .i64 (1))]),
    o1 5 (.copy 16)])))))))
 (.seq (.rg [o1 4 (.lit [.b] [.bool true])])
 .ret))))
def s_sl05SameInts : Sig := ⟨[.rd false [.sl (.own none) [.d]], .rd false [.sl (.own none) [.d]]], (.one false [.d])⟩
noncomputable def E_sl05SameInts : TEnv := envOf []
noncomputable def f_sl05SameInts (n : Nat) : List (Int) × List (Int) → Option ((Bool) × Unit) := runFn n E_sl05SameInts c_sl05SameInts [[.sl [.i .i64]], [.sl [.i .i64]]] [.b] [] [4] .no
noncomputable def g_sl05SameInts := f_sl05SameInts BIG
noncomputable def p_sl05SameInts : TSp := ⟨s_sl05SameInts, [[.sl [.i .i64]], [.sl [.i .i64]]], [.b], [], Ou.j .no, g_sl05SameInts⟩
theorem k_sl05SameInts : chkW PG E_sl05SameInts 89 s_sl05SameInts (c_sl05SameInts.ht 26) .no = some (c_sl05SameInts.wc E_sl05SameInts, [4]) := by kernel_rfl
theorem ok_sl05SameInts : p_sl05SameInts.Ok PG 89 := mkOk (env_nil PG) k_sl05SameInts (by kernel_rfl)
theorem e_sl05SameInts (n : Nat) (a0 : List (Int)) (a1 : List (Int)) : f_sl05SameInts n (a0, a1) =
  bif !decide ((a0.length : Int) = (a1.length : Int)) then
   some (false, ())
  else Option.bind (loopT n (X := Int) (B := (Unit) ⊕ (Bool)) (fun self1 x0 =>
    bif decide (x0 < (a0.length : Int)) then
     bnd a0.length x0 fun n2 =>
     Option.bind a0[n2]? fun y3 =>
     bnd a1.length x0 fun n4 =>
     Option.bind a1[n4]? fun y5 =>
     bif !decide (y3 = y5) then
      some (Sum.inr false)
     else self1 (IntKind.wrap .i64 (x0 + (1 : Int)))
    else some (Sum.inl ())) (0 : Int) : Option ((Unit) ⊕ (Bool))) fun y => match y with
  | .inl x6 =>
   some (true, ())
  | .inr x6 =>
   some (x6, ()) := by kernel_rfl
/- spec.l09SameAnswer -/
def c_sl09SameAnswer : TC :=
 (.seq (.rg [o1 2 (.a (.t 0)),
   o1 3 (.a (.t 1)),
   o1 4 (.lit [.b] [.bool false])])
 (.seq (.join [⟨4, [.b], false⟩] 2147483632 none (.rg [o1 5 (.idx .nil),
   o1 6 (.load 2 [] 0 (.t 5) 1 false),
   o1 7 (.idx .nil),
   o1 8 (.load 3 [] 0 (.t 7) 1 false),
   o1 9 (.data (.bin .eql) [.t 6, .t 8]),
   o1 10 (.copy 9),
   o2 11 (.idx .nil) 5 true,
   o2 12 (.load 2 [] 1 (.t 11) 1 false) 5 true,
   o2 13 (.idx .nil) 5 true,
   o2 14 (.load 3 [] 1 (.t 13) 1 false) 5 true,
   o2 15 (.data (.beq false) [.t 12, .t 14]) 5 true,
   ⟨false, [], [], .pick 10 (.t 15) (.c (.bool false)), [16], (some 16), none⟩,
   o1 17 (.copy 16),
   o2 18 (.idx .nil) 12 true,
   o2 19 (.load 2 [] 2 (.t 18) 1 false) 12 true,
   o2 20 (.idx .nil) 12 true,
   o2 21 (.load 3 [] 2 (.t 20) 1 false) 12 true,
   ⟨false, [], [], .call 1 152 [.t 19, .t 21] .no, [22], (some 22), some (12, true)⟩,
   ⟨false, [], [], .pick 17 (.t 22) (.c (.bool false)), [23], (some 23), none⟩,
   o1 24 (.copy 23),
   o2 25 (.idx .nil) 19 true,
   o2 26 (.load 2 [] 3 (.t 25) 1 false) 19 true,
   o2 27 (.idx .nil) 19 true,
   o2 28 (.load 3 [] 3 (.t 27) 1 false) 19 true,
   ⟨false, [], [], .call 1 89 [.t 26, .t 28] .no, [29], (some 29), some (19, true)⟩,
   ⟨false, [], [], .pick 24 (.t 29) (.c (.bool false)), [30], (some 30), none⟩,
   o1 4 (.copy 30)]))
 .ret))
def s_sl09SameAnswer : Sig := ⟨[.rd true [.d, .d, .sl (.own none) [.d, .d], .sl (.own none) [.d]], .rd true [.d, .d, .sl (.own none) [.d, .d], .sl (.own none) [.d]]], (.one false [.d])⟩
noncomputable def E_sl09SameAnswer : TEnv := envOf [(152, p_sl05SameEdges), (89, p_sl05SameInts)]
noncomputable def f_sl09SameAnswer (n : Nat) : (Int × Bool × List (Int × Int) × List (Int)) × (Int × Bool × List (Int × Int) × List (Int)) → Option ((Bool) × Unit) := runFn n E_sl09SameAnswer c_sl09SameAnswer [[.i .i64, .b, .sl [.i .i64, .i .i64], .sl [.i .i64]], [.i .i64, .b, .sl [.i .i64, .i .i64], .sl [.i .i64]]] [.b] [] [4] .no
noncomputable def g_sl09SameAnswer := f_sl09SameAnswer BIG
noncomputable def p_sl09SameAnswer : TSp := ⟨s_sl09SameAnswer, [[.i .i64, .b, .sl [.i .i64, .i .i64], .sl [.i .i64]], [.i .i64, .b, .sl [.i .i64, .i .i64], .sl [.i .i64]]], [.b], [], Ou.j .no, g_sl09SameAnswer⟩
theorem k_sl09SameAnswer : chkW PG E_sl09SameAnswer 135 s_sl09SameAnswer (c_sl09SameAnswer.ht 31) .no = some (c_sl09SameAnswer.wc E_sl09SameAnswer, [4]) := by kernel_rfl
theorem ok_sl09SameAnswer : p_sl09SameAnswer.Ok PG 135 := mkOk (env_cons ok_sl05SameEdges (env_cons ok_sl05SameInts (env_nil PG))) k_sl09SameAnswer (by kernel_rfl)
theorem e_sl09SameAnswer (n : Nat) (a0 : Int × Bool × List (Int × Int) × List (Int)) (a1 : Int × Bool × List (Int × Int) × List (Int)) : f_sl09SameAnswer n (a0, a1) =
  Option.bind (bif decide (a0.1 = a1.1) then
    bif (a0.2.1 == a1.2.1) then
     Option.bind (g_sl05SameEdges (a0.2.2.1, a1.2.2.1)) fun r0 =>
     bif r0.1 then
      Option.bind (g_sl05SameInts (a0.2.2.2, a1.2.2.2)) fun r1 =>
      some r1.1
     else some false
    else some false
   else some false : Option (Bool)) fun x2 =>
  some (x2, ()) := by kernel_rfl
/- spec.l10Blank -/
def c_sl10Blank : TC :=
 (.seq (.rg [o1 1 (.a (.t 0)),
   o1 2 (.lit [.b] [.bool false])])
 (.seq (.rg [o1 3 (.load 1 [] 0 .nil 4 false),
   o1 4 (.build [.i .i64, .b, .sl [.i .i64, .i .i64], .sl [.i .i64]] []),
   o3 5 135 [.t 3, .t 4],
   o1 2 (.copy 5)])
 .ret))
def s_sl10Blank : Sig := ⟨[.rd true [.d, .d, .sl (.own none) [.d, .d], .sl (.own none) [.d]]], (.one false [.d])⟩
noncomputable def E_sl10Blank : TEnv := envOf [(135, p_sl09SameAnswer)]
noncomputable def f_sl10Blank (n : Nat) : (Int × Bool × List (Int × Int) × List (Int)) → Option ((Bool) × Unit) := runFn n E_sl10Blank c_sl10Blank [[.i .i64, .b, .sl [.i .i64, .i .i64], .sl [.i .i64]]] [.b] [] [2] .no
noncomputable def g_sl10Blank := f_sl10Blank BIG
noncomputable def p_sl10Blank : TSp := ⟨s_sl10Blank, [[.i .i64, .b, .sl [.i .i64, .i .i64], .sl [.i .i64]]], [.b], [], Ou.j .no, g_sl10Blank⟩
theorem k_sl10Blank : chkW PG E_sl10Blank 88 s_sl10Blank (c_sl10Blank.ht 6) .no = some (c_sl10Blank.wc E_sl10Blank, [2]) := by kernel_rfl
theorem ok_sl10Blank : p_sl10Blank.Ok PG 88 := mkOk (env_cons ok_sl09SameAnswer (env_nil PG)) k_sl10Blank (by kernel_rfl)
theorem e_sl10Blank (n : Nat) (a0 : Int × Bool × List (Int × Int) × List (Int)) : f_sl10Blank n a0 =
  Option.bind (g_sl09SameAnswer (a0, ((0 : Int), false, [], []))) fun r0 =>
  some (r0.1, ()) := by kernel_rfl
/- spec.l09Labels -/
def c_sl09Labels : TC :=
 (.seq (.rg [o1 4 (.lit [.b] [.bool false])])
 (.seq (.seq (.rg [o1 6 (.copy 1),
   o1 7 (.len 6),
   o1 8 (.copy 0),
   o1 9 (.data (.bin .neq) [.t 7, .t 8])])
 (.cond (.t 9)
  (.seq (.rg [o1 4 (.lit [.b] [.bool false])])
  .ret)
  .skip))
 (.seq (.join [] 68719475760 (some [⟨4, [.b], false⟩]) (.seq (.rg [o1 5 (.lit [.i .i64] [.int .i64 (0)])])
 (.block 0 (.loop [⟨5, [.i .i64], false⟩] 68719475760
  (.seq (.seq (.rg [o1 10 (.copy 5),
    o1 11 (.copy 0),
    o1 12 (.data (.bin .lss) [.t 10, .t 11])])
  (.cond (.t 12)
   .skip
   (.exit 0)))
  (.seq (.join [] 68719443984 (some [⟨4, [.b], false⟩]) (.block 1 (.seq (.join [⟨35, [.b], false⟩] 68719443968 none (.rg [o1 15 (.copy 1),
    o1 16 (.copy 5),
    o1 17 (.index 15 (.t 16)),
    o1 18 (.load 15 [(0, 1)] 0 (.t 17) 1 false),
    o1 19 (.copy 5),
    o3 20 46 [.t 18, .c [.i .i64] [.int .i64 (0)], .t 19],
    o1 21 (.data .not [.t 20]),
    o1 22 (.copy 21),
    o2 23 (.copy 1) 7 false,
    o2 24 (.copy 1) 7 false,
    o2 25 (.copy 5) 7 false,
    o2 26 (.index 24 (.t 25)) 7 false,
    o2 27 (.load 24 [(0, 1)] 0 (.t 26) 1 false) 7 false,
    o2 28 (.index 23 (.t 27)) 7 false,
    o2 29 (.load 23 [(0, 1)] 0 (.t 28) 1 false) 7 false,
    o2 30 (.copy 1) 7 false,
    o2 31 (.copy 5) 7 false,
    o2 32 (.index 30 (.t 31)) 7 false,
    o2 33 (.load 30 [(0, 1)] 0 (.t 32) 1 false) 7 false,
    o2 34 (.data (.bin .neq) [.t 29, .t 33]) 7 false,
    ⟨false, [], [], .pick 22 (.c (.bool true)) (.t 34), [35], (some 35), none⟩]))
  (.cond (.t 35)
   (.seq (.rg [o1 4 (.lit [.b] [.bool false])])
   .ret)
   .skip))))
  (.rg [o1 13 (.copy 5),
    o1 14 (.data (.bin .add) [.t 13, .c (.int .i64 (1))]),
    o1 5 (.copy 14)])))))))
 (.seq (.rg [o1 4 (.lit [.b] [.bool true])])
 .ret))))
def s_sl09Labels : Sig := ⟨[.rd false [.d], .rd false [.sl (.own none) [.d]]], (.one false [.d])⟩
noncomputable def E_sl09Labels : TEnv := envOf [(46, p_sl01In)]
noncomputable def f_sl09Labels (n : Nat) : Int × List (Int) → Option ((Bool) × Unit) := runFn n E_sl09Labels c_sl09Labels [[.i .i64], [.sl [.i .i64]]] [.b] [] [4] .no
noncomputable def g_sl09Labels := f_sl09Labels BIG
noncomputable def p_sl09Labels : TSp := ⟨s_sl09Labels, [[.i .i64], [.sl [.i .i64]]], [.b], [], Ou.j .no, g_sl09Labels⟩
theorem k_sl09Labels : chkW PG E_sl09Labels 73 s_sl09Labels (c_sl09Labels.ht 36) .no = some (c_sl09Labels.wc E_sl09Labels, [4]) := by kernel_rfl
theorem ok_sl09Labels : p_sl09Labels.Ok PG 73 := mkOk (env_cons ok_sl01In (env_nil PG)) k_sl09Labels (by kernel_rfl)
theorem e_sl09Labels (n : Nat) (a0 : Int) (a1 : List (Int)) : f_sl09Labels n (a0, a1) =
  bif !decide ((a1.length : Int) = a0) then
   some (false, ())
  else Option.bind (loopT n (X := Int) (B := (Unit) ⊕ (Bool)) (fun self1 x0 =>
    bif decide (x0 < a0) then
     Option.bind (Option.bind (bnd a1.length x0 fun n2 =>
       Option.bind a1[n2]? fun y3 =>
       Option.bind (g_sl01In (y3, (0 : Int), x0)) fun r4 =>
       bif !r4.1 then
        some true
       else bnd a1.length x0 fun n5 =>
       Option.bind a1[n5]? fun y6 =>
       bnd a1.length y6 fun n7 =>
       Option.bind a1[n7]? fun y8 =>
       bnd a1.length x0 fun n9 =>
       Option.bind a1[n9]? fun y10 =>
       some (!decide (y8 = y10)) : Option (Bool)) fun x11 =>
      bif x11 then
       some (Sum.inr false)
      else some (Sum.inl ()) : Option ((Unit) ⊕ (Bool))) fun y => match y with
     | .inl x12 =>
      self1 (IntKind.wrap .i64 (x0 + (1 : Int)))
     | .inr x12 =>
      some (Sum.inr x12)
    else some (Sum.inl ())) (0 : Int) : Option ((Unit) ⊕ (Bool))) fun y => match y with
  | .inl x13 =>
   some (true, ())
  | .inr x13 =>
   some (x13, ()) := by kernel_rfl
/- spec.AnswerOk -/
def c_sAnswerOk : TC :=
 (.seq (.rg [o1 3 (.a (.t 1)),
   o1 4 (.lit [.b] [.bool false])])
 (.seq (.join [⟨4, [.b], false⟩] 16777200 none (.rg [o1 5 (.copy 0),
   o3 6 46 [.t 5, .c [.i .i64] [.int .i64 (1)], .c [.i .i64] [.int .i64 (12)]],
   o1 7 (.copy 6),
   o2 8 (.idx .nil) 2 true,
   o2 9 (.load 3 [] 0 (.t 8) 1 false) 2 true,
   ⟨false, [], [], .call 1 46 [.t 9, .c [.i .i64] [.int .i64 (1)], .c [.i .i64] [.int .i64 (100000)]] .no, [10], (some 10), some (2, true)⟩,
   ⟨false, [], [], .pick 7 (.t 10) (.c (.bool false)), [11], (some 11), none⟩,
   o1 12 (.copy 11),
   o2 13 (.copy 0) 7 true,
   o2 14 (.idx .nil) 7 true,
   o2 15 (.load 3 [] 2 (.t 14) 1 false) 7 true,
   ⟨false, [], [], .call 1 63 [.t 13, .t 15] .no, [16], (some 16), some (7, true)⟩,
   ⟨false, [], [], .pick 12 (.t 16) (.c (.bool false)), [17], (some 17), none⟩,
   o1 18 (.copy 17),
   o2 19 (.copy 0) 13 true,
   o2 20 (.idx .nil) 13 true,
   o2 21 (.load 3 [] 3 (.t 20) 1 false) 13 true,
   ⟨false, [], [], .call 1 73 [.t 19, .t 21] .no, [22], (some 22), some (13, true)⟩,
   ⟨false, [], [], .pick 18 (.t 22) (.c (.bool false)), [23], (some 23), none⟩,
   o1 4 (.copy 23)]))
 .ret))
def s_sAnswerOk : Sig := ⟨[.rd false [.d], .rd true [.d, .d, .sl (.own none) [.d, .d], .sl (.own none) [.d]]], (.one false [.d])⟩
noncomputable def E_sAnswerOk : TEnv := envOf [(46, p_sl01In), (63, p_sl05Edges), (73, p_sl09Labels)]
noncomputable def f_sAnswerOk (n : Nat) : Int × (Int × Bool × List (Int × Int) × List (Int)) → Option ((Bool) × Unit) := runFn n E_sAnswerOk c_sAnswerOk [[.i .i64], [.i .i64, .b, .sl [.i .i64, .i .i64], .sl [.i .i64]]] [.b] [] [4] .no
noncomputable def g_sAnswerOk := f_sAnswerOk BIG
noncomputable def p_sAnswerOk : TSp := ⟨s_sAnswerOk, [[.i .i64], [.i .i64, .b, .sl [.i .i64, .i .i64], .sl [.i .i64]]], [.b], [], Ou.j .no, g_sAnswerOk⟩
theorem k_sAnswerOk : chkW PG E_sAnswerOk 27 s_sAnswerOk (c_sAnswerOk.ht 24) .no = some (c_sAnswerOk.wc E_sAnswerOk, [4]) := by kernel_rfl
theorem ok_sAnswerOk : p_sAnswerOk.Ok PG 27 := mkOk (env_cons ok_sl01In (env_cons ok_sl05Edges (env_cons ok_sl09Labels (env_nil PG)))) k_sAnswerOk (by kernel_rfl)
theorem e_sAnswerOk (n : Nat) (a0 : Int) (a1 : Int × Bool × List (Int × Int) × List (Int)) : f_sAnswerOk n (a0, a1) =
  Option.bind (Option.bind (g_sl01In (a0, (1 : Int), (12 : Int))) fun r0 =>
   bif r0.1 then
    Option.bind (g_sl01In (a1.1, (1 : Int), (100000 : Int))) fun r1 =>
    bif r1.1 then
     Option.bind (g_sl05Edges (a0, a1.2.2.1)) fun r2 =>
     bif r2.1 then
      Option.bind (g_sl09Labels (a0, a1.2.2.2)) fun r3 =>
      some r3.1
     else some false
    else some false
   else some false : Option (Bool)) fun x4 =>
  some (x4, ()) := by kernel_rfl
/- spec.WebLabels -/
def c_sWebLabels : TC :=
 (.seq (.rg [o1 1 (.a (.t 0)),
   o1 2 (.lit [.sl [.i .i64]] [.slice none 0 0])])
 (.seq (.rg [o1 7 (.sli [.i .i64] []),
   ⟨false, [], [], .det 2 (.copy 7), [3, 7], (some 3), none⟩])
 (.seq (.seq (.rg [o1 8 (.load 1 [] 0 .nil 2 false),
   o3 9 87 [.t 8],
   o1 10 (.data .not [.t 9])])
 (.cond (.t 10)
  (.seq (.rg [⟨false, [], [], .det 2 (.copy 3), [11, 3], (some 11), none⟩,
    ⟨false, [], [], .det 2 (.copy 11), [2, 11], (some 2), none⟩])
  .ret)
  .skip))
 (.seq (.rg [o1 13 (.load 1 [] 0 .nil 2 false),
   o3 14 132 [.t 13, .c [.i .i64] [.int .i64 (0)]],
   ⟨false, [], [], .det 2 (.copy 14), [12, 14], (some 12), none⟩,
   ⟨false, [], [], .det 2 (.ext 12 0 2), [15, 12], (some 15), none⟩,
   o1 16 (.ext 12 2 1),
   ⟨false, [], [], .det 2 (.a (.c [.i .i64, .sl [.sl [.i .i64]]] [.int .i64 (0), .slice none 0 0])), [4, 1000000001], (some 4), none⟩,
   o4 2 [4, 15] (.store 4 [] 0 .nil (.t 15)),
   o1 5 (.copy 16)])
 (.seq (.join [⟨3, [.sl [.i .i64]], false⟩] 68719345736 none (.seq (.rg [o1 6 (.lit [.i .i64] [.int .i64 (0)])])
 (.block 0 (.loop [⟨3, [.sl [.i .i64]], false⟩, ⟨6, [.i .i64], false⟩] 68719345736
  (.seq (.seq (.rg [o1 17 (.copy 6),
    o1 18 (.idx .nil),
    o1 19 (.load 1 [] 0 (.t 18) 1 false),
    o1 20 (.data (.bin .lss) [.t 17, .t 19])])
  (.cond (.t 20)
   .skip
   (.exit 0)))
  (.seq (.block 1 (.rg [⟨false, [], [], .det 2 (.copy 3), [23, 3], (some 23), none⟩,
    o1 24 (.idx .nil),
    o1 25 (.load 4 [] 1 (.t 24) 1 true),
    o1 26 (.load 4 [] 0 .nil 2 true),
    o1 27 (.copy 6),
    o3 28 134 [.t 26, .t 27],
    o1 29 (.index 25 (.t 28)),
    o1 30 (.load 4 [(1, 1)] 0 (.t 29) 1 false),
    o3 31 133 [.t 30],
    o1 32 (.index 31 (.c (.int .i64 (0)))),
    o1 33 (.load 31 [(0, 1)] 0 (.t 32) 1 false),
    o1 34 (.sli [.i .i64] [.t 33]),
    ⟨false, [], [], .det 2 (.app (some 23) 34), [35, 23], (some 35), none⟩,
    ⟨false, [], [], .det 2 (.copy 35), [3, 35], (some 3), none⟩]))
  (.rg [o1 21 (.copy 6),
    o1 22 (.data (.bin .add) [.t 21, .c (.int .i64 (1))]),
    o1 6 (.copy 22)])))))))
 (.seq (.rg [⟨false, [], [], .det 2 (.copy 3), [36, 3], (some 36), none⟩,
   ⟨false, [], [], .det 2 (.copy 36), [2, 36], (some 2), none⟩])
 .ret))))))
def s_sWebLabels : Sig := ⟨[.rd true [.d, .sl (.own none) [.d, .d, .d, .d]]], (.one false [.sl (.own none) [.d]])⟩
noncomputable def E_sWebLabels : TEnv := envOf [(87, p_sWebOk), (132, p_sForestAt), (134, p_sTreeOf), (133, p_sVertsOf)]
noncomputable def f_sWebLabels (n : Nat) : (Int × List (Int × Int × Int × Bool)) → Option ((List (Int)) × Unit) := runFn n E_sWebLabels c_sWebLabels [[.i .i64, .sl [.i .i64, .i .i64, .i .i64, .b]]] [.sl [.i .i64]] [] [2] .no
noncomputable def g_sWebLabels := f_sWebLabels BIG
noncomputable def p_sWebLabels : TSp := ⟨s_sWebLabels, [[.i .i64, .sl [.i .i64, .i .i64, .i .i64, .b]]], [.sl [.i .i64]], [], Ou.j .no, g_sWebLabels⟩
theorem k_sWebLabels : chkW PG E_sWebLabels 90 s_sWebLabels (c_sWebLabels.ht 37) .no = some (c_sWebLabels.wc E_sWebLabels, [2]) := by kernel_rfl
theorem ok_sWebLabels : p_sWebLabels.Ok PG 90 := mkOk (env_cons ok_sWebOk (env_cons ok_sForestAt (env_cons ok_sTreeOf (env_cons ok_sVertsOf (env_nil PG))))) k_sWebLabels (by kernel_rfl)
theorem e_sWebLabels (n : Nat) (a0 : Int × List (Int × Int × Int × Bool)) : f_sWebLabels n a0 =
  Option.bind (g_sWebOk a0) fun r0 =>
  bif !r0.1 then
   some ([], ())
  else Option.bind (g_sForestAt (a0, (0 : Int))) fun r1 =>
  Option.bind (loopT n (X := (List (Int)) × Int) (B := (List (Int))) (fun self3 x2 =>
    bif decide (x2.2 < a0.1) then
     Option.bind (g_sTreeOf ((r1.1.1, r1.1.2.1), x2.2)) fun r4 =>
     bnd r1.1.2.1.length r4.1 fun n5 =>
     Option.bind r1.1.2.1[n5]? fun y6 =>
     Option.bind (g_sVertsOf y6) fun r7 =>
     bnd r7.1.length (0 : Int) fun n8 =>
     Option.bind r7.1[n8]? fun y9 =>
     bif decide (x2.1.length + [y9].length ≤ 4294967296) then
      self3 (x2.1 ++ [y9], IntKind.wrap .i64 (x2.2 + (1 : Int)))
     else none
    else some x2.1) ([], (0 : Int)) : Option ((List (Int)))) fun x10 =>
  some (x10, ()) := by kernel_rfl
/- spec.ShardOk -/
def c_sShardOk : TC :=
 (.seq (.rg [o1 1 (.a (.t 0)),
   o1 2 (.lit [.b] [.bool false])])
 (.seq (.seq (.join [⟨12, [.b], false⟩] 8184 none (.rg [o1 3 (.idx .nil),
   o1 4 (.load 1 [] 0 (.t 3) 1 false),
   o3 5 46 [.t 4, .c [.i .i64] [.int .i64 (1)], .c [.i .i64] [.int .i64 (3)]],
   o1 6 (.data .not [.t 5]),
   o1 7 (.copy 6),
   o2 8 (.idx .nil) 4 false,
   o2 9 (.load 1 [] 1 (.t 8) 2 false) 4 false,
   ⟨false, [], [], .call 1 87 [.t 9] .no, [10], (some 10), some (4, false)⟩,
   o2 11 (.data .not [.t 10]) 4 false,
   ⟨false, [], [], .pick 7 (.c (.bool true)) (.t 11), [12], (some 12), none⟩]))
 (.cond (.t 12)
  (.seq (.rg [o1 2 (.lit [.b] [.bool false])])
  .ret)
  .skip))
 (.seq (.join [⟨2, [.b], false⟩] 8589926404 none (.rg [o1 13 (.idx .nil),
   o1 14 (.load 1 [] 3 (.t 13) 4 false),
   o3 15 88 [.t 14],
   o1 16 (.copy 15),
   o2 17 (.idx .nil) 3 false,
   o2 18 (.idx (.t 17)) 3 false,
   o2 19 (.load 1 [] 1 (.t 18) 1 false) 3 false,
   o2 20 (.idx .nil) 3 false,
   o2 21 (.load 1 [] 3 (.t 20) 4 false) 3 false,
   ⟨false, [], [], .call 1 27 [.t 19, .t 21] .no, [22], (some 22), some (3, false)⟩,
   o2 23 (.copy 22) 3 false,
   o2 24 (.idx .nil) 10 true,
   o2 25 (.idx (.t 24)) 10 true,
   o2 26 (.load 1 [] 6 (.t 25) 1 false) 10 true,
   o2 27 (.idx .nil) 10 true,
   o2 28 (.load 1 [] 1 (.t 27) 2 false) 10 true,
   ⟨false, [], [], .call 1 90 [.t 28] .no, [29], (some 29), some (10, true)⟩,
   ⟨false, [], [], .call 1 89 [.t 26, .t 29] .no, [30], (some 30), some (10, true)⟩,
   ⟨false, [], [], .pick 23 (.t 30) (.c (.bool false)), [31], (some 31), some (3, false)⟩,
   ⟨false, [], [], .pick 16 (.c (.bool true)) (.t 31), [32], (some 32), none⟩,
   o1 2 (.copy 32)]))
 .ret)))
def s_sShardOk : Sig := ⟨[.rd true [.d, .d, .sl (.own none) [.d, .d, .d, .d], .d, .d, .sl (.own none) [.d, .d], .sl (.own none) [.d]]], (.one false [.d])⟩
noncomputable def E_sShardOk : TEnv := envOf [(46, p_sl01In), (87, p_sWebOk), (88, p_sl10Blank), (27, p_sAnswerOk), (90, p_sWebLabels), (89, p_sl05SameInts)]
noncomputable def f_sShardOk (n : Nat) : (Int × Int × List (Int × Int × Int × Bool) × Int × Bool × List (Int × Int) × List (Int)) → Option ((Bool) × Unit) := runFn n E_sShardOk c_sShardOk [[.i .i64, .i .i64, .sl [.i .i64, .i .i64, .i .i64, .b], .i .i64, .b, .sl [.i .i64, .i .i64], .sl [.i .i64]]] [.b] [] [2] .no
noncomputable def g_sShardOk := f_sShardOk BIG
noncomputable def p_sShardOk : TSp := ⟨s_sShardOk, [[.i .i64, .i .i64, .sl [.i .i64, .i .i64, .i .i64, .b], .i .i64, .b, .sl [.i .i64, .i .i64], .sl [.i .i64]]], [.b], [], Ou.j .no, g_sShardOk⟩
theorem k_sShardOk : chkW PG E_sShardOk 35 s_sShardOk (c_sShardOk.ht 33) .no = some (c_sShardOk.wc E_sShardOk, [2]) := by kernel_rfl
theorem ok_sShardOk : p_sShardOk.Ok PG 35 := mkOk (env_cons ok_sl01In (env_cons ok_sWebOk (env_cons ok_sl10Blank (env_cons ok_sAnswerOk (env_cons ok_sWebLabels (env_cons ok_sl05SameInts (env_nil PG))))))) k_sShardOk (by kernel_rfl)
theorem e_sShardOk (n : Nat) (a0 : Int × Int × List (Int × Int × Int × Bool) × Int × Bool × List (Int × Int) × List (Int)) : f_sShardOk n a0 =
  Option.bind (Option.bind (g_sl01In (a0.1, (1 : Int), (3 : Int))) fun r0 =>
   bif !r0.1 then
    some true
   else Option.bind (g_sWebOk (a0.2.1, a0.2.2.1)) fun r1 =>
   some !r1.1 : Option (Bool)) fun x2 =>
  bif x2 then
   some (false, ())
  else Option.bind (Option.bind (g_sl10Blank a0.2.2.2) fun r3 =>
   bif r3.1 then
    some true
   else Option.bind (g_sAnswerOk (a0.2.1, a0.2.2.2)) fun r4 =>
   bif r4.1 then
    Option.bind (g_sWebLabels (a0.2.1, a0.2.2.1)) fun r5 =>
    Option.bind (g_sl05SameInts (a0.2.2.2.2.2.2, r5.1)) fun r6 =>
    some r6.1
   else some false : Option (Bool)) fun x7 =>
  some (x7, ()) := by kernel_rfl
/- impl.in -/
def c_iin : TC :=
 (.seq (.rg [o1 6 (.lit [.b] [.bool false])])
 (.seq (.join [⟨6, [.b], false⟩] 32704 none (.rg [o1 7 (.copy 0),
   o1 8 (.copy 1),
   o1 9 (.data (.bin .geq) [.t 7, .t 8]),
   o1 10 (.copy 9),
   o2 11 (.copy 0) 3 true,
   o2 12 (.copy 2) 3 true,
   o2 13 (.data (.bin .leq) [.t 11, .t 12]) 3 true,
   ⟨false, [], [], .pick 10 (.t 13) (.c (.bool false)), [14], (some 14), none⟩,
   o1 6 (.copy 14)]))
 .ret))
def s_iin : Sig := ⟨[.rd false [.d], .rd false [.d], .rd false [.d]], (.one false [.d])⟩
noncomputable def E_iin : TEnv := envOf []
noncomputable def f_iin (n : Nat) : Int × Int × Int → Option ((Bool) × Unit) := runFn n E_iin c_iin [[.i .i64], [.i .i64], [.i .i64]] [.b] [] [6] .no
noncomputable def g_iin := f_iin BIG
noncomputable def p_iin : TSp := ⟨s_iin, [[.i .i64], [.i .i64], [.i .i64]], [.b], [], Ou.j .no, g_iin⟩
theorem k_iin : chkW PG E_iin 42 s_iin (c_iin.ht 15) .no = some (c_iin.wc E_iin, [6]) := by kernel_rfl
theorem ok_iin : p_iin.Ok PG 42 := mkOk (env_nil PG) k_iin (by kernel_rfl)
theorem e_iin (n : Nat) (a0 : Int) (a1 : Int) (a2 : Int) : f_iin n (a0, a1, a2) =
  Option.bind (bif decide (a1 ≤ a0) then
    some (decide (a0 ≤ a2))
   else some false : Option (Bool)) fun x0 =>
  some (x0, ()) := by kernel_rfl
/- impl.GraphOf -/
def c_iGraphOf : TC :=
 (.seq (.rg [o1 1 (.a (.t 0)),
   ⟨false, [], [], .det 2 (.a (.c [.i .i64, .sl [.i .i64, .i .i64]] [.int .i64 (0), .slice none 0 0])), [2, 1000000001], (some 2), none⟩])
 (.seq (.rg [o1 6 (.idx .nil),
   o1 7 (.load 1 [] 0 (.t 6) 1 false),
   o1 8 (.build [.i .i64, .sl [.i .i64, .i .i64]] [(0, .t 7)]),
   ⟨false, [], [], .det 2 (.a (.c [.i .i64, .sl [.i .i64, .i .i64]] [.int .i64 (0), .slice none 0 0])), [3, 1000000001], (some 3), none⟩,
   o4 2 [3, 8] (.store 3 [] 0 .nil (.t 8))])
 (.seq (.join [⟨3, [.i .i64, .sl [.i .i64, .i .i64]], false⟩] 134217256 none (.seq (.rg [o1 9 (.idx .nil),
   o1 10 (.load 1 [] 1 (.t 9) 1 false),
   o1 11 (.len 10),
   o1 12 (.lit [.i .i64] [.int .i64 (0)])])
 (.block 0 (.loop [⟨3, [.i .i64, .sl [.i .i64, .i .i64]], false⟩, ⟨12, [.i .i64], false⟩] 134213672
  (.seq (.rg [o1 13 (.data (.bin .lss) [.t 12, .t 11])])
  (.seq (.cond (.t 13)
   .skip
   (.exit 0))
  (.seq (.block 1 (.seq (.rg [o1 14 (.index 10 (.t 12)),
    o1 15 (.load 10 [(0, 4)] 0 (.t 14) 4 false),
    ⟨false, [], [], .det 2 (.a (.c [.i .i64, .i .i64, .i .i64, .b] [.int .i64 (0), .int .i64 (0), .int .i64 (0), .bool false])), [5, 1000000001], (some 5), none⟩,
    o4 1 [5] (.store 5 [] 0 .nil (.t 15))])
  (.rg [o1 16 (.idx .nil),
    o1 17 (.load 3 [] 1 (.t 16) 1 true),
    o1 18 (.idx .nil),
    o1 19 (.load 5 [] 0 (.t 18) 1 false),
    o1 20 (.idx .nil),
    o1 21 (.load 5 [] 1 (.t 20) 1 false),
    o1 22 (.build [.i .i64, .i .i64] [(0, .t 19), (1, .t 21)]),
    o1 23 (.sli [.i .i64, .i .i64] [.t 22]),
    ⟨false, [17], [], .det 2 (.app (some 17) 23), [24, 17, 17, 3], (some 24), none⟩,
    o1 25 (.idx .nil),
    o4 2 [3, 24, 17] (.store 3 [] 1 (.t 25) (.t 24))])))
  (.rg [o1 26 (.data (.bin .add) [.t 12, .c (.int .i64 (1))]),
    o1 12 (.copy 26)]))))))))
 (.seq (.rg [o1 27 (.load 3 [] 0 .nil 2 true),
   ⟨false, [27], [], .det 2 (.store 2 [] 0 .nil (.t 27)), [2, 27, 27, 3], none, none⟩])
 .ret))))
def s_iGraphOf : Sig := ⟨[.rd true [.d, .sl (.own none) [.d, .d, .d, .d]]], (.one true [.d, .sl (.own none) [.d, .d]])⟩
noncomputable def E_iGraphOf : TEnv := envOf []
noncomputable def f_iGraphOf (n : Nat) : (Int × List (Int × Int × Int × Bool)) → Option ((Int × List (Int × Int)) × Unit) := runFn n E_iGraphOf c_iGraphOf [[.i .i64, .sl [.i .i64, .i .i64, .i .i64, .b]]] [.i .i64, .sl [.i .i64, .i .i64]] [] [2] .no
noncomputable def g_iGraphOf := f_iGraphOf BIG
noncomputable def p_iGraphOf : TSp := ⟨s_iGraphOf, [[.i .i64, .sl [.i .i64, .i .i64, .i .i64, .b]]], [.i .i64, .sl [.i .i64, .i .i64]], [], Ou.j .no, g_iGraphOf⟩
theorem k_iGraphOf : chkW PG E_iGraphOf 139 s_iGraphOf (c_iGraphOf.ht 28) .no = some (c_iGraphOf.wc E_iGraphOf, [2]) := by kernel_rfl
theorem ok_iGraphOf : p_iGraphOf.Ok PG 139 := mkOk (env_nil PG) k_iGraphOf (by kernel_rfl)
theorem e_iGraphOf (n : Nat) (a0 : Int × List (Int × Int × Int × Bool)) : f_iGraphOf n a0 =
  Option.bind (loopT n (X := (Int × List (Int × Int)) × Int) (B := (Int × List (Int × Int))) (fun self1 x0 =>
    bif decide (x0.2 < (a0.2.length : Int)) then
     bnd a0.2.length x0.2 fun n2 =>
     Option.bind a0.2[n2]? fun y3 =>
     bif decide (x0.1.2.length + ([(y3.1, y3.2.1)]).length ≤ 4294967296) then
      self1 ((x0.1.1, x0.1.2 ++ ([(y3.1, y3.2.1)])), IntKind.wrap .i64 (x0.2 + (1 : Int)))
     else none
    else some x0.1) ((a0.1, []), (0 : Int)) : Option ((Int × List (Int × Int)))) fun x4 =>
  some (x4, ()) := by kernel_rfl
/- impl.EdgeOk -/
def c_iEdgeOk : TC :=
 (.seq (.rg [o1 3 (.a (.t 1)),
   o1 4 (.lit [.b] [.bool false])])
 (.seq (.join [⟨4, [.b], false⟩] 268435440 none (.rg [o1 5 (.copy 0),
   o3 6 42 [.t 5, .c [.i .i64] [.int .i64 (1)], .c [.i .i64] [.int .i64 (12)]],
   o1 7 (.copy 6),
   o2 8 (.idx .nil) 2 true,
   o2 9 (.load 3 [] 0 (.t 8) 1 false) 2 true,
   o2 10 (.copy 0) 2 true,
   o2 11 (.data (.bin .sub) [.t 10, .c (.int .i64 (1))]) 2 true,
   ⟨false, [], [], .call 1 42 [.t 9, .c [.i .i64] [.int .i64 (0)], .t 11] .no, [12], (some 12), some (2, true)⟩,
   ⟨false, [], [], .pick 7 (.t 12) (.c (.bool false)), [13], (some 13), none⟩,
   o1 14 (.copy 13),
   o2 15 (.idx .nil) 9 true,
   o2 16 (.load 3 [] 1 (.t 15) 1 false) 9 true,
   o2 17 (.copy 0) 9 true,
   o2 18 (.data (.bin .sub) [.t 17, .c (.int .i64 (1))]) 9 true,
   ⟨false, [], [], .call 1 42 [.t 16, .c [.i .i64] [.int .i64 (0)], .t 18] .no, [19], (some 19), some (9, true)⟩,
   ⟨false, [], [], .pick 14 (.t 19) (.c (.bool false)), [20], (some 20), none⟩,
   o1 21 (.copy 20),
   o2 22 (.idx .nil) 16 true,
   o2 23 (.load 3 [] 0 (.t 22) 1 false) 16 true,
   o2 24 (.idx .nil) 16 true,
   o2 25 (.load 3 [] 1 (.t 24) 1 false) 16 true,
   o2 26 (.data (.bin .lss) [.t 23, .t 25]) 16 true,
   ⟨false, [], [], .pick 21 (.t 26) (.c (.bool false)), [27], (some 27), none⟩,
   o1 4 (.copy 27)]))
 .ret))
def s_iEdgeOk : Sig := ⟨[.rd false [.d], .rd true [.d, .d]], (.one false [.d])⟩
noncomputable def E_iEdgeOk : TEnv := envOf [(42, p_iin)]
noncomputable def f_iEdgeOk (n : Nat) : Int × (Int × Int) → Option ((Bool) × Unit) := runFn n E_iEdgeOk c_iEdgeOk [[.i .i64], [.i .i64, .i .i64]] [.b] [] [4] .no
noncomputable def g_iEdgeOk := f_iEdgeOk BIG
noncomputable def p_iEdgeOk : TSp := ⟨s_iEdgeOk, [[.i .i64], [.i .i64, .i .i64]], [.b], [], Ou.j .no, g_iEdgeOk⟩
theorem k_iEdgeOk : chkW PG E_iEdgeOk 43 s_iEdgeOk (c_iEdgeOk.ht 28) .no = some (c_iEdgeOk.wc E_iEdgeOk, [4]) := by kernel_rfl
theorem ok_iEdgeOk : p_iEdgeOk.Ok PG 43 := mkOk (env_cons ok_iin (env_nil PG)) k_iEdgeOk (by kernel_rfl)
theorem e_iEdgeOk (n : Nat) (a0 : Int) (a1 : Int × Int) : f_iEdgeOk n (a0, a1) =
  Option.bind (Option.bind (g_iin (a0, (1 : Int), (12 : Int))) fun r0 =>
   bif r0.1 then
    Option.bind (g_iin (a1.1, (0 : Int), IntKind.wrap .i64 (a0 - (1 : Int)))) fun r1 =>
    bif r1.1 then
     Option.bind (g_iin (a1.2, (0 : Int), IntKind.wrap .i64 (a0 - (1 : Int)))) fun r2 =>
     bif r2.1 then
      some (decide (a1.1 < a1.2))
     else some false
    else some false
   else some false : Option (Bool)) fun x3 =>
  some (x3, ()) := by kernel_rfl
/- impl.ahead -/
def c_iahead : TC :=
 (.seq (.rg [o1 2 (.a (.t 0)),
   o1 3 (.a (.t 1)),
   o1 4 (.lit [.b] [.bool false])])
 (.seq (.join [⟨4, [.b], false⟩] 16777200 none (.rg [o1 5 (.idx .nil),
   o1 6 (.load 2 [] 0 (.t 5) 1 false),
   o1 7 (.idx .nil),
   o1 8 (.load 3 [] 0 (.t 7) 1 false),
   o1 9 (.data (.bin .lss) [.t 6, .t 8]),
   o1 10 (.copy 9),
   o2 11 (.idx .nil) 5 false,
   o2 12 (.load 2 [] 0 (.t 11) 1 false) 5 false,
   o2 13 (.idx .nil) 5 false,
   o2 14 (.load 3 [] 0 (.t 13) 1 false) 5 false,
   o2 15 (.data (.bin .eql) [.t 12, .t 14]) 5 false,
   o2 16 (.copy 15) 5 false,
   o2 17 (.idx .nil) 11 true,
   o2 18 (.load 2 [] 1 (.t 17) 1 false) 11 true,
   o2 19 (.idx .nil) 11 true,
   o2 20 (.load 3 [] 1 (.t 19) 1 false) 11 true,
   o2 21 (.data (.bin .lss) [.t 18, .t 20]) 11 true,
   ⟨false, [], [], .pick 16 (.t 21) (.c (.bool false)), [22], (some 22), some (5, false)⟩,
   ⟨false, [], [], .pick 10 (.c (.bool true)) (.t 22), [23], (some 23), none⟩,
   o1 4 (.copy 23)]))
 .ret))
def s_iahead : Sig := ⟨[.rd true [.d, .d], .rd true [.d, .d]], (.one false [.d])⟩
noncomputable def E_iahead : TEnv := envOf []
noncomputable def f_iahead (n : Nat) : (Int × Int) × (Int × Int) → Option ((Bool) × Unit) := runFn n E_iahead c_iahead [[.i .i64, .i .i64], [.i .i64, .i .i64]] [.b] [] [4] .no
noncomputable def g_iahead := f_iahead BIG
noncomputable def p_iahead : TSp := ⟨s_iahead, [[.i .i64, .i .i64], [.i .i64, .i .i64]], [.b], [], Ou.j .no, g_iahead⟩
theorem k_iahead : chkW PG E_iahead 118 s_iahead (c_iahead.ht 24) .no = some (c_iahead.wc E_iahead, [4]) := by kernel_rfl
theorem ok_iahead : p_iahead.Ok PG 118 := mkOk (env_nil PG) k_iahead (by kernel_rfl)
theorem e_iahead (n : Nat) (a0 : Int × Int) (a1 : Int × Int) : f_iahead n (a0, a1) =
  Option.bind (bif decide (a0.1 < a1.1) then
    some true
   else bif decide (a0.1 = a1.1) then
    some (decide (a0.2 < a1.2))
   else some false : Option (Bool)) fun x0 =>
  some (x0, ()) := by kernel_rfl
/- impl.edgesOk -/
def c_iedgesOk : TC :=
 (.seq (.rg [o1 4 (.lit [.b] [.bool false])])
 (.seq (.join [] 8589934576 (some [⟨4, [.b], false⟩]) (.seq (.rg [o1 7 (.copy 1),
   o1 8 (.len 7),
   o1 9 (.lit [.i .i64] [.int .i64 (0)])])
 (.block 0 (.loop [⟨9, [.i .i64], false⟩] 8589934192
  (.seq (.rg [o1 10 (.data (.bin .lss) [.t 9, .t 8])])
  (.seq (.cond (.t 10)
   .skip
   (.exit 0))
  (.seq (.join [] 4294965360 (some [⟨4, [.b], false⟩]) (.block 1 (.seq (.rg [o1 11 (.copy 9),
    o1 12 (.index 7 (.t 9)),
    o1 13 (.load 7 [(0, 2)] 0 (.t 12) 2 false),
    ⟨false, [], [], .det 2 (.a (.c [.i .i64, .i .i64] [.int .i64 (0), .int .i64 (0)])), [6, 1000000001], (some 6), none⟩,
    o1 5 (.copy 11),
    o4 1 [6] (.store 6 [] 0 .nil (.t 13))])
  (.seq (.join [⟨31, [.b], false⟩] 4294950912 none (.rg [o1 14 (.copy 0),
    o1 15 (.load 6 [] 0 .nil 2 false),
    o3 16 43 [.t 14, .t 15],
    o1 17 (.data .not [.t 16]),
    o1 18 (.copy 17),
    o2 19 (.copy 5) 4 false,
    o2 20 (.data (.bin .gtr) [.t 19, .c (.int .i64 (0))]) 4 false,
    o2 21 (.copy 20) 4 false,
    o2 22 (.copy 1) 7 true,
    o2 23 (.copy 5) 7 true,
    o2 24 (.data (.bin .sub) [.t 23, .c (.int .i64 (1))]) 7 true,
    o2 25 (.index 22 (.t 24)) 7 true,
    o2 26 (.load 22 [(0, 2)] 0 (.t 25) 2 false) 7 true,
    o2 27 (.load 6 [] 0 .nil 2 false) 7 true,
    ⟨false, [], [], .call 1 118 [.t 26, .t 27] .no, [28], (some 28), some (7, true)⟩,
    o2 29 (.data .not [.t 28]) 7 true,
    ⟨false, [], [], .pick 21 (.t 29) (.c (.bool false)), [30], (some 30), some (4, false)⟩,
    ⟨false, [], [], .pick 18 (.c (.bool true)) (.t 30), [31], (some 31), none⟩]))
  (.cond (.t 31)
   (.seq (.rg [o1 4 (.lit [.b] [.bool false])])
   .ret)
   .skip)))))
  (.rg [o1 32 (.data (.bin .add) [.t 9, .c (.int .i64 (1))]),
    o1 9 (.copy 32)]))))))))
 (.seq (.rg [o1 33 (.copy 1),
   o1 34 (.len 33),
   o1 35 (.data (.bin .leq) [.t 34, .c (.int .i64 (66))]),
   o1 4 (.copy 35)])
 .ret)))
def s_iedgesOk : Sig := ⟨[.rd false [.d], .rd false [.sl (.own none) [.d, .d]]], (.one false [.d])⟩
noncomputable def E_iedgesOk : TEnv := envOf [(43, p_iEdgeOk), (118, p_iahead)]
noncomputable def f_iedgesOk (n : Nat) : Int × (List (Int × Int)) → Option ((Bool) × Unit) := runFn n E_iedgesOk c_iedgesOk [[.i .i64], [.sl [.i .i64, .i .i64]]] [.b] [] [4] .no
noncomputable def g_iedgesOk := f_iedgesOk BIG
noncomputable def p_iedgesOk : TSp := ⟨s_iedgesOk, [[.i .i64], [.sl [.i .i64, .i .i64]]], [.b], [], Ou.j .no, g_iedgesOk⟩
theorem k_iedgesOk : chkW PG E_iedgesOk 71 s_iedgesOk (c_iedgesOk.ht 36) .no = some (c_iedgesOk.wc E_iedgesOk, [4]) := by kernel_rfl
theorem ok_iedgesOk : p_iedgesOk.Ok PG 71 := mkOk (env_cons ok_iEdgeOk (env_cons ok_iahead (env_nil PG))) k_iedgesOk (by kernel_rfl)
theorem e_iedgesOk (n : Nat) (a0 : Int) (a1 : List (Int × Int)) : f_iedgesOk n (a0, a1) =
  Option.bind (loopT n (X := Int) (B := (Unit) ⊕ (Bool)) (fun self1 x0 =>
    bif decide (x0 < (a1.length : Int)) then
     Option.bind (bnd a1.length x0 fun n2 =>
      Option.bind a1[n2]? fun y3 =>
      Option.bind (Option.bind (g_iEdgeOk (a0, y3)) fun r4 =>
       bif !r4.1 then
        some true
       else bif decide ((0 : Int) < x0) then
        bnd a1.length (IntKind.wrap .i64 (x0 - (1 : Int))) fun n5 =>
        Option.bind a1[n5]? fun y6 =>
        Option.bind (g_iahead (y6, y3)) fun r7 =>
        some !r7.1
       else some false : Option (Bool)) fun x8 =>
      bif x8 then
       some (Sum.inr false)
      else some (Sum.inl ()) : Option ((Unit) ⊕ (Bool))) fun y => match y with
     | .inl x9 =>
      self1 (IntKind.wrap .i64 (x0 + (1 : Int)))
     | .inr x9 =>
      some (Sum.inr x9)
    else some (Sum.inl ())) (0 : Int) : Option ((Unit) ⊕ (Bool))) fun y => match y with
  | .inl x10 =>
   some (decide ((a1.length : Int) ≤ (66 : Int)), ())
  | .inr x10 =>
   some (x10, ()) := by kernel_rfl
/- impl.GraphOk -/
def c_iGraphOk : TC :=
 (.seq (.rg [o1 1 (.a (.t 0)),
   o1 2 (.lit [.b] [.bool false])])
 (.seq (.join [⟨2, [.b], false⟩] 8188 none (.rg [o1 3 (.idx .nil),
   o1 4 (.load 1 [] 0 (.t 3) 1 false),
   o3 5 42 [.t 4, .c [.i .i64] [.int .i64 (1)], .c [.i .i64] [.int .i64 (12)]],
   o1 6 (.copy 5),
   o2 7 (.idx .nil) 3 true,
   o2 8 (.load 1 [] 0 (.t 7) 1 false) 3 true,
   o2 9 (.idx .nil) 3 true,
   o2 10 (.load 1 [] 1 (.t 9) 1 false) 3 true,
   ⟨false, [], [], .call 1 71 [.t 8, .t 10] .no, [11], (some 11), some (3, true)⟩,
   ⟨false, [], [], .pick 6 (.t 11) (.c (.bool false)), [12], (some 12), none⟩,
   o1 2 (.copy 12)]))
 .ret))
def s_iGraphOk : Sig := ⟨[.rd true [.d, .sl (.own none) [.d, .d]]], (.one false [.d])⟩
noncomputable def E_iGraphOk : TEnv := envOf [(42, p_iin), (71, p_iedgesOk)]
noncomputable def f_iGraphOk (n : Nat) : (Int × List (Int × Int)) → Option ((Bool) × Unit) := runFn n E_iGraphOk c_iGraphOk [[.i .i64, .sl [.i .i64, .i .i64]]] [.b] [] [2] .no
noncomputable def g_iGraphOk := f_iGraphOk BIG
noncomputable def p_iGraphOk : TSp := ⟨s_iGraphOk, [[.i .i64, .sl [.i .i64, .i .i64]]], [.b], [], Ou.j .no, g_iGraphOk⟩
theorem k_iGraphOk : chkW PG E_iGraphOk 107 s_iGraphOk (c_iGraphOk.ht 13) .no = some (c_iGraphOk.wc E_iGraphOk, [2]) := by kernel_rfl
theorem ok_iGraphOk : p_iGraphOk.Ok PG 107 := mkOk (env_cons ok_iin (env_cons ok_iedgesOk (env_nil PG))) k_iGraphOk (by kernel_rfl)
theorem e_iGraphOk (n : Nat) (a0 : Int × List (Int × Int)) : f_iGraphOk n a0 =
  Option.bind (Option.bind (g_iin (a0.1, (1 : Int), (12 : Int))) fun r0 =>
   bif r0.1 then
    Option.bind (g_iedgesOk (a0.1, a0.2)) fun r1 =>
    some r1.1
   else some false : Option (Bool)) fun x2 =>
  some (x2, ()) := by kernel_rfl
/- impl.treeEdges -/
def c_itreeEdges : TC :=
 (.seq (.rg [o1 1 (.a (.t 0)),
   o1 2 (.lit [.sl [.i .i64, .i .i64]] [.slice none 0 0])])
 (.seq (.rg [o1 3 (.lit [.sl [.i .i64, .i .i64]] [.slice none 0 0])])
 (.seq (.join [⟨3, [.sl [.i .i64, .i .i64]], false⟩] 16777192 none (.seq (.rg [o1 6 (.idx .nil),
   o1 7 (.load 1 [] 1 (.t 6) 1 false),
   o1 8 (.len 7),
   o1 9 (.lit [.i .i64] [.int .i64 (0)])])
 (.block 0 (.loop [⟨3, [.sl [.i .i64, .i .i64]], false⟩, ⟨9, [.i .i64], false⟩] 16776744
  (.seq (.rg [o1 10 (.data (.bin .lss) [.t 9, .t 8])])
  (.seq (.cond (.t 10)
   .skip
   (.exit 0))
  (.seq (.join [⟨3, [.sl [.i .i64, .i .i64]], false⟩] 8386600 none (.block 1 (.seq (.rg [o1 11 (.index 7 (.t 9)),
    o1 12 (.load 7 [(0, 4)] 0 (.t 11) 4 false),
    ⟨false, [], [], .det 2 (.a (.c [.i .i64, .i .i64, .i .i64, .b] [.int .i64 (0), .int .i64 (0), .int .i64 (0), .bool false])), [5, 1000000001], (some 5), none⟩,
    o4 1 [5] (.store 5 [] 0 .nil (.t 12))])
  (.seq (.rg [o1 13 (.idx .nil),
    o1 14 (.load 5 [] 3 (.t 13) 1 false)])
  (.cond (.t 14)
   (.rg [⟨false, [], [], .det 2 (.copy 3), [15, 3], (some 15), none⟩,
     o1 16 (.idx .nil),
     o1 17 (.load 5 [] 0 (.t 16) 1 false),
     o1 18 (.idx .nil),
     o1 19 (.load 5 [] 1 (.t 18) 1 false),
     o1 20 (.build [.i .i64, .i .i64] [(0, .t 17), (1, .t 19)]),
     o1 21 (.sli [.i .i64, .i .i64] [.t 20]),
     ⟨false, [], [], .det 2 (.app (some 15) 21), [22, 15], (some 22), none⟩,
     ⟨false, [], [], .det 2 (.copy 22), [3, 22], (some 3), none⟩])
   .skip)))))
  (.rg [o1 23 (.data (.bin .add) [.t 9, .c (.int .i64 (1))]),
    o1 9 (.copy 23)]))))))))
 (.seq (.rg [⟨false, [], [], .det 2 (.copy 3), [24, 3], (some 24), none⟩,
   ⟨false, [], [], .det 2 (.copy 24), [2, 24], (some 2), none⟩])
 .ret))))
def s_itreeEdges : Sig := ⟨[.rd true [.d, .sl (.own none) [.d, .d, .d, .d]]], (.one false [.sl (.own none) [.d, .d]])⟩
noncomputable def E_itreeEdges : TEnv := envOf []
noncomputable def f_itreeEdges (n : Nat) : (Int × List (Int × Int × Int × Bool)) → Option ((List (Int × Int)) × Unit) := runFn n E_itreeEdges c_itreeEdges [[.i .i64, .sl [.i .i64, .i .i64, .i .i64, .b]]] [.sl [.i .i64, .i .i64]] [] [2] .no
noncomputable def g_itreeEdges := f_itreeEdges BIG
noncomputable def p_itreeEdges : TSp := ⟨s_itreeEdges, [[.i .i64, .sl [.i .i64, .i .i64, .i .i64, .b]]], [.sl [.i .i64, .i .i64]], [], Ou.j .no, g_itreeEdges⟩
theorem k_itreeEdges : chkW PG E_itreeEdges 140 s_itreeEdges (c_itreeEdges.ht 25) .no = some (c_itreeEdges.wc E_itreeEdges, [2]) := by kernel_rfl
theorem ok_itreeEdges : p_itreeEdges.Ok PG 140 := mkOk (env_nil PG) k_itreeEdges (by kernel_rfl)
theorem e_itreeEdges (n : Nat) (a0 : Int × List (Int × Int × Int × Bool)) : f_itreeEdges n a0 =
  Option.bind (loopT n (X := (List (Int × Int)) × Int) (B := (List (Int × Int))) (fun self1 x0 =>
    bif decide (x0.2 < (a0.2.length : Int)) then
     Option.bind (bnd a0.2.length x0.2 fun n2 =>
      Option.bind a0.2[n2]? fun y3 =>
      bif y3.2.2.2 then
       bif decide (x0.1.length + ([(y3.1, y3.2.1)]).length ≤ 4294967296) then
        some (x0.1 ++ ([(y3.1, y3.2.1)]))
       else none
      else some x0.1 : Option ((List (Int × Int)))) fun x4 =>
     self1 (x4, IntKind.wrap .i64 (x0.2 + (1 : Int)))
    else some x0.1) ([], (0 : Int)) : Option ((List (Int × Int)))) fun x5 =>
  some (x5, ()) := by kernel_rfl
/- impl.first -/
def c_ifirst : TC :=
 (.seq (.rg [o1 2 (.lit [.sl [.i .i64]] [.slice none 0 0])])
 (.seq (.rg [o1 3 (.lit [.sl [.i .i64]] [.slice none 0 0])])
 (.seq (.join [⟨3, [.sl [.i .i64]], false⟩] 16376 none (.seq (.rg [o1 5 (.copy 0),
   o1 6 (.lit [.i .i64] [.int .i64 (0)])])
 (.block 0 (.loop [⟨3, [.sl [.i .i64]], false⟩, ⟨6, [.i .i64], false⟩] 16344
  (.seq (.rg [o1 7 (.data (.bin .lss) [.t 6, .t 5])])
  (.seq (.cond (.t 7)
   .skip
   (.exit 0))
  (.seq (.block 1 (.seq (.rg [o1 8 (.copy 6),
    o1 4 (.copy 8)])
  (.rg [⟨false, [], [], .det 2 (.copy 3), [9, 3], (some 9), none⟩,
    o1 10 (.copy 4),
    o1 11 (.sli [.i .i64] [.t 10]),
    ⟨false, [], [], .det 2 (.app (some 9) 11), [12, 9], (some 12), none⟩,
    ⟨false, [], [], .det 2 (.copy 12), [3, 12], (some 3), none⟩])))
  (.rg [o1 13 (.data (.bin .add) [.t 6, .c (.int .i64 (1))]),
    o1 6 (.copy 13)]))))))))
 (.seq (.rg [⟨false, [], [], .det 2 (.copy 3), [14, 3], (some 14), none⟩,
   ⟨false, [], [], .det 2 (.copy 14), [2, 14], (some 2), none⟩])
 .ret))))
def s_ifirst : Sig := ⟨[.rd false [.d]], (.one false [.sl (.own none) [.d]])⟩
noncomputable def E_ifirst : TEnv := envOf []
noncomputable def f_ifirst (n : Nat) : Int → Option ((List (Int)) × Unit) := runFn n E_ifirst c_ifirst [[.i .i64]] [.sl [.i .i64]] [] [2] .no
noncomputable def g_ifirst := f_ifirst BIG
noncomputable def p_ifirst : TSp := ⟨s_ifirst, [[.i .i64]], [.sl [.i .i64]], [], Ou.j .no, g_ifirst⟩
theorem k_ifirst : chkW PG E_ifirst 101 s_ifirst (c_ifirst.ht 15) .no = some (c_ifirst.wc E_ifirst, [2]) := by kernel_rfl
theorem ok_ifirst : p_ifirst.Ok PG 101 := mkOk (env_nil PG) k_ifirst (by kernel_rfl)
theorem e_ifirst (n : Nat) (a0 : Int) : f_ifirst n a0 =
  Option.bind (loopT n (X := (List (Int)) × Int) (B := (List (Int))) (fun self1 x0 =>
    bif decide (x0.2 < a0) then
     bif decide (x0.1.length + [x0.2].length ≤ 4294967296) then
      self1 (x0.1 ++ [x0.2], IntKind.wrap .i64 (x0.2 + (1 : Int)))
     else none
    else some x0.1) ([], (0 : Int)) : Option ((List (Int)))) fun x2 =>
  some (x2, ()) := by kernel_rfl
/- impl.union -/
def c_iunion : TC :=
 (.seq (.rg [o1 6 (.lit [.b] [.bool false])])
 (.seq (.rg [⟨true, [], [], .det 1 (.copy 0), [10], (some 10), none⟩,
   o1 11 (.copy 1),
   o1 12 (.index 10 (.t 11)),
   o1 13 (.load 0 [(0, 1)] 0 (.t 12) 1 false),
   ⟨true, [], [], .det 1 (.copy 0), [14], (some 14), none⟩,
   o1 15 (.copy 2),
   o1 16 (.index 14 (.t 15)),
   o1 17 (.load 0 [(0, 1)] 0 (.t 16) 1 false),
   o1 7 (.copy 13),
   o1 8 (.copy 17)])
 (.seq (.seq (.rg [o1 18 (.copy 7),
   o1 19 (.copy 8),
   o1 20 (.data (.bin .eql) [.t 18, .t 19])])
 (.cond (.t 20)
  (.seq (.rg [o1 6 (.lit [.b] [.bool false])])
  .ret)
  .skip))
 (.seq (.join [⟨0, [.sl [.i .i64]], false⟩] 2199021158913 none (.seq (.rg [⟨true, [], [], .det 1 (.copy 0), [21], (some 21), none⟩,
   o1 22 (.len 21),
   o1 23 (.lit [.i .i64] [.int .i64 (0)])])
 (.block 0 (.loop [⟨0, [.sl [.i .i64]], false⟩, ⟨23, [.i .i64], false⟩] 2199016982017
  (.seq (.rg [o1 24 (.data (.bin .lss) [.t 23, .t 22])])
  (.seq (.cond (.t 24)
   .skip
   (.exit 0))
  (.seq (.join [⟨0, [.sl [.i .i64]], false⟩] 1099478073857 none (.block 1 (.seq (.rg [o1 25 (.copy 23),
    o1 9 (.copy 25)])
  (.seq (.rg [⟨true, [], [], .det 1 (.copy 0), [26], (some 26), none⟩,
    o1 27 (.copy 9),
    o1 28 (.index 26 (.t 27)),
    o1 29 (.load 0 [(0, 1)] 0 (.t 28) 1 false),
    o1 30 (.copy 7),
    o1 31 (.copy 8),
    o1 32 (.data .max [.t 30, .t 31]),
    o1 33 (.data (.bin .eql) [.t 29, .t 32])])
  (.cond (.t 33)
   (.rg [⟨true, [], [], .det 1 (.copy 0), [34], (some 34), none⟩,
     o1 35 (.copy 9),
     o1 36 (.copy 7),
     o1 37 (.copy 8),
     o1 38 (.data .min [.t 36, .t 37]),
     o1 39 (.index 34 (.t 35)),
     o4 1 [0, 26, 34] (.store 0 [(0, 1)] 0 (.t 39) (.t 38))])
   .skip)))))
  (.rg [o1 40 (.data (.bin .add) [.t 23, .c (.int .i64 (1))]),
    o1 23 (.copy 40)]))))))))
 (.seq (.rg [o1 6 (.lit [.b] [.bool true])])
 .ret)))))
def s_iunion : Sig := ⟨[.mt false [.sl (.own none) [.d]], .rd false [.d], .rd false [.d]], (.one false [.d])⟩
noncomputable def E_iunion : TEnv := envOf []
noncomputable def f_iunion (n : Nat) : List (Int) × Int × Int → Option ((Bool) × List (Int)) := runFn n E_iunion c_iunion [[.sl [.i .i64]], [.i .i64], [.i .i64]] [.b] [.sl [.i .i64]] [6] (.mt 0 0 0)
noncomputable def g_iunion := f_iunion BIG
noncomputable def p_iunion : TSp := ⟨s_iunion, [[.sl [.i .i64]], [.i .i64], [.i .i64]], [.b], [.sl [.i .i64]], Ou.j (.mt 0 0 0), g_iunion⟩
theorem k_iunion : chkW PG E_iunion 102 s_iunion (c_iunion.ht 41) (.mt 0 0 0) = some (c_iunion.wc E_iunion, [6]) := by kernel_rfl
theorem ok_iunion : p_iunion.Ok PG 102 := mkOk (env_nil PG) k_iunion (by kernel_rfl)
theorem e_iunion (n : Nat) (a0 : List (Int)) (a1 : Int) (a2 : Int) : f_iunion n (a0, a1, a2) =
  bnd a0.length a1 fun n0 =>
  Option.bind a0[n0]? fun y1 =>
  bnd a0.length a2 fun n2 =>
  Option.bind a0[n2]? fun y3 =>
  bif decide (y1 = y3) then
   some (false, a0)
  else Option.bind (loopT n (X := (List (Int)) × Int) (B := (List (Int))) (fun self5 x4 =>
    bif decide (x4.2 < (a0.length : Int)) then
     Option.bind (bnd x4.1.length x4.2 fun n6 =>
      Option.bind x4.1[n6]? fun y7 =>
      bif decide (y7 = (if y3 > y1 then y3 else y1)) then
       bnd x4.1.length x4.2 fun n8 =>
       Option.bind x4.1[n8]? fun y9 =>
       some (x4.1.set n8 (if y3 < y1 then y3 else y1))
      else some x4.1 : Option ((List (Int)))) fun x10 =>
     self5 (x10, IntKind.wrap .i64 (x4.2 + (1 : Int)))
    else some x4.1) (a0, (0 : Int)) : Option ((List (Int)))) fun x11 =>
  some (true, x11) := by kernel_rfl
/- impl.rings -/
def c_irings : TC :=
 (.seq (.rg [o1 4 (.lit [.b] [.bool false])])
 (.seq (.rg [o1 8 (.copy 0),
   o3 9 101 [.t 8],
   ⟨false, [], [], .det 2 (.copy 9), [5, 9], (some 5), none⟩])
 (.seq (.join [] 16776368 (some [⟨4, [.b], false⟩]) (.seq (.rg [o1 10 (.copy 1),
   o1 11 (.len 10),
   o1 12 (.lit [.i .i64] [.int .i64 (0)])])
 (.block 0 (.loop [⟨5, [.sl [.i .i64]], false⟩, ⟨12, [.i .i64], false⟩] 16773296
  (.seq (.rg [o1 13 (.data (.bin .lss) [.t 12, .t 11])])
  (.seq (.cond (.t 13)
   .skip
   (.exit 0))
  (.seq (.block 1 (.seq (.rg [o1 14 (.index 10 (.t 12)),
    o1 15 (.load 10 [(0, 2)] 0 (.t 14) 2 false),
    ⟨false, [], [], .det 2 (.a (.c [.i .i64, .i .i64] [.int .i64 (0), .int .i64 (0)])), [7, 1000000001], (some 7), none⟩,
    o4 1 [7] (.store 7 [] 0 .nil (.t 15))])
  (.seq (.rg [⟨true, [], [], .det 1 (.copy 5), [16], (some 16), none⟩,
    o1 17 (.idx .nil),
    o1 18 (.load 7 [] 0 (.t 17) 1 false),
    o1 19 (.idx .nil),
    o1 20 (.load 7 [] 1 (.t 19) 1 false),
    ⟨false, [], [], .call 2 102 [.t 16, .t 18, .t 20] (.mt 5 [] 0 16 0), [21, 5, 16], (some 21), none⟩,
    o1 22 (.data .not [.t 21])])
  (.cond (.t 22)
   (.seq (.rg [o1 4 (.lit [.b] [.bool true])])
   .ret)
   .skip))))
  (.rg [o1 23 (.data (.bin .add) [.t 12, .c (.int .i64 (1))]),
    o1 12 (.copy 23)]))))))))
 (.seq (.rg [o1 4 (.lit [.b] [.bool false])])
 .ret))))
def s_irings : Sig := ⟨[.rd false [.d], .rd false [.sl (.own none) [.d, .d]]], (.one false [.d])⟩
noncomputable def E_irings : TEnv := envOf [(101, p_ifirst), (102, p_iunion)]
noncomputable def f_irings (n : Nat) : Int × (List (Int × Int)) → Option ((Bool) × Unit) := runFn n E_irings c_irings [[.i .i64], [.sl [.i .i64, .i .i64]]] [.b] [] [4] .no
noncomputable def g_irings := f_irings BIG
noncomputable def p_irings : TSp := ⟨s_irings, [[.i .i64], [.sl [.i .i64, .i .i64]]], [.b], [], Ou.j .no, g_irings⟩
theorem k_irings : chkW PG E_irings 44 s_irings (c_irings.ht 24) .no = some (c_irings.wc E_irings, [4]) := by kernel_rfl
theorem ok_irings : p_irings.Ok PG 44 := mkOk (env_cons ok_ifirst (env_cons ok_iunion (env_nil PG))) k_irings (by kernel_rfl)
theorem e_irings (n : Nat) (a0 : Int) (a1 : List (Int × Int)) : f_irings n (a0, a1) =
  Option.bind (g_ifirst a0) fun r0 =>
  Option.bind (loopT n (X := (List (Int)) × Int) (B := (Unit) ⊕ (Bool)) (fun self2 x1 =>
    bif decide (x1.2 < (a1.length : Int)) then
     bnd a1.length x1.2 fun n3 =>
     Option.bind a1[n3]? fun y4 =>
     Option.bind (g_iunion (x1.1, y4.1, y4.2)) fun r5 =>
     bif !r5.1 then
      some (Sum.inr true)
     else self2 (r5.2, IntKind.wrap .i64 (x1.2 + (1 : Int)))
    else some (Sum.inl ())) (r0.1, (0 : Int)) : Option ((Unit) ⊕ (Bool))) fun y => match y with
  | .inl x6 =>
   some (false, ())
  | .inr x6 =>
   some (x6, ()) := by kernel_rfl
/- impl.forest -/
def c_iforest : TC :=
 (.seq (.rg [o1 2 (.a (.t 0)),
   o1 4 (.lit [.sl [.i .i64, .i .i64]] [.slice none 0 0])])
 (.seq (.rg [o1 5 (.lit [.sl [.i .i64, .i .i64]] [.slice none 0 0])])
 (.seq (.join [⟨5, [.sl [.i .i64, .i .i64]], false⟩] 4294967200 none (.seq (.rg [o1 8 (.idx .nil),
   o1 9 (.load 2 [] 1 (.t 8) 1 false),
   o1 10 (.len 9),
   o1 11 (.lit [.i .i64] [.int .i64 (0)])])
 (.block 0 (.loop [⟨5, [.sl [.i .i64, .i .i64]], false⟩, ⟨11, [.i .i64], false⟩] 4294965408
  (.seq (.rg [o1 12 (.data (.bin .lss) [.t 11, .t 10])])
  (.seq (.cond (.t 12)
   .skip
   (.exit 0))
  (.seq (.join [⟨5, [.sl [.i .i64, .i .i64]], false⟩] 2147475616 none (.block 1 (.seq (.rg [o1 13 (.index 9 (.t 11)),
    o1 14 (.load 9 [(0, 4)] 0 (.t 13) 4 false),
    ⟨false, [], [], .det 2 (.a (.c [.i .i64, .i .i64, .i .i64, .b] [.int .i64 (0), .int .i64 (0), .int .i64 (0), .bool false])), [7, 1000000001], (some 7), none⟩,
    o4 1 [7] (.store 7 [] 0 .nil (.t 14))])
  (.seq (.join [⟨22, [.b], false⟩] 8355840 none (.rg [o1 15 (.idx .nil),
    o1 16 (.load 7 [] 3 (.t 15) 1 false),
    o1 17 (.copy 16),
    o2 18 (.idx .nil) 2 true,
    o2 19 (.load 7 [] 2 (.t 18) 1 false) 2 true,
    o2 20 (.copy 1) 2 true,
    o2 21 (.data (.bin .geq) [.t 19, .t 20]) 2 true,
    ⟨false, [], [], .pick 17 (.t 21) (.c (.bool false)), [22], (some 22), none⟩]))
  (.cond (.t 22)
   (.rg [⟨false, [], [], .det 2 (.copy 5), [23, 5], (some 23), none⟩,
     o1 24 (.idx .nil),
     o1 25 (.load 7 [] 0 (.t 24) 1 false),
     o1 26 (.idx .nil),
     o1 27 (.load 7 [] 1 (.t 26) 1 false),
     o1 28 (.build [.i .i64, .i .i64] [(0, .t 25), (1, .t 27)]),
     o1 29 (.sli [.i .i64, .i .i64] [.t 28]),
     ⟨false, [], [], .det 2 (.app (some 23) 29), [30, 23], (some 30), none⟩,
     ⟨false, [], [], .det 2 (.copy 30), [5, 30], (some 5), none⟩])
   .skip)))))
  (.rg [o1 31 (.data (.bin .add) [.t 11, .c (.int .i64 (1))]),
    o1 11 (.copy 31)]))))))))
 (.seq (.rg [⟨false, [], [], .det 2 (.copy 5), [32, 5], (some 32), none⟩,
   ⟨false, [], [], .det 2 (.copy 32), [4, 32], (some 4), none⟩])
 .ret))))
def s_iforest : Sig := ⟨[.rd true [.d, .sl (.own none) [.d, .d, .d, .d]], .rd false [.d]], (.one false [.sl (.own none) [.d, .d]])⟩
noncomputable def E_iforest : TEnv := envOf []
noncomputable def f_iforest (n : Nat) : (Int × List (Int × Int × Int × Bool)) × Int → Option ((List (Int × Int)) × Unit) := runFn n E_iforest c_iforest [[.i .i64, .sl [.i .i64, .i .i64, .i .i64, .b]], [.i .i64]] [.sl [.i .i64, .i .i64]] [] [4] .no
noncomputable def g_iforest := f_iforest BIG
noncomputable def p_iforest : TSp := ⟨s_iforest, [[.i .i64, .sl [.i .i64, .i .i64, .i .i64, .b]], [.i .i64]], [.sl [.i .i64, .i .i64]], [], Ou.j .no, g_iforest⟩
theorem k_iforest : chkW PG E_iforest 155 s_iforest (c_iforest.ht 33) .no = some (c_iforest.wc E_iforest, [4]) := by kernel_rfl
theorem ok_iforest : p_iforest.Ok PG 155 := mkOk (env_nil PG) k_iforest (by kernel_rfl)
theorem e_iforest (n : Nat) (a0 : Int × List (Int × Int × Int × Bool)) (a1 : Int) : f_iforest n (a0, a1) =
  Option.bind (loopT n (X := (List (Int × Int)) × Int) (B := (List (Int × Int))) (fun self1 x0 =>
    bif decide (x0.2 < (a0.2.length : Int)) then
     Option.bind (bnd a0.2.length x0.2 fun n2 =>
      Option.bind a0.2[n2]? fun y3 =>
      Option.bind (bif y3.2.2.2 then
        some (decide (a1 ≤ y3.2.2.1))
       else some false : Option (Bool)) fun x4 =>
      bif x4 then
       bif decide (x0.1.length + ([(y3.1, y3.2.1)]).length ≤ 4294967296) then
        some (x0.1 ++ ([(y3.1, y3.2.1)]))
       else none
      else some x0.1 : Option ((List (Int × Int)))) fun x5 =>
     self1 (x5, IntKind.wrap .i64 (x0.2 + (1 : Int)))
    else some x0.1) ([], (0 : Int)) : Option ((List (Int × Int)))) fun x6 =>
  some (x6, ()) := by kernel_rfl
/- impl.labelsAt -/
def c_ilabelsAt : TC :=
 (.seq (.rg [o1 2 (.a (.t 0)),
   o1 4 (.lit [.sl [.i .i64]] [.slice none 0 0])])
 (.seq (.rg [o1 8 (.idx .nil),
   o1 9 (.load 2 [] 0 (.t 8) 1 false),
   o3 10 101 [.t 9],
   ⟨false, [], [], .det 2 (.copy 10), [5, 10], (some 5), none⟩])
 (.seq (.join [⟨5, [.sl [.i .i64]], false⟩] 67106976 none (.seq (.rg [o1 11 (.load 2 [] 0 .nil 2 false),
   o1 12 (.copy 1),
   o3 13 155 [.t 11, .t 12],
   o1 14 (.len 13),
   o1 15 (.lit [.i .i64] [.int .i64 (0)])])
 (.block 0 (.loop [⟨5, [.sl [.i .i64]], false⟩, ⟨15, [.i .i64], false⟩] 67076256
  (.seq (.rg [o1 16 (.data (.bin .lss) [.t 15, .t 14])])
  (.seq (.cond (.t 16)
   .skip
   (.exit 0))
  (.seq (.block 1 (.seq (.rg [o1 17 (.index 13 (.t 15)),
    o1 18 (.load 13 [(0, 2)] 0 (.t 17) 2 false),
    ⟨false, [], [], .det 2 (.a (.c [.i .i64, .i .i64] [.int .i64 (0), .int .i64 (0)])), [7, 1000000001], (some 7), none⟩,
    o4 1 [7] (.store 7 [] 0 .nil (.t 18))])
  (.rg [⟨true, [], [], .det 1 (.copy 5), [19], (some 19), none⟩,
    o1 20 (.idx .nil),
    o1 21 (.load 7 [] 0 (.t 20) 1 false),
    o1 22 (.idx .nil),
    o1 23 (.load 7 [] 1 (.t 22) 1 false),
    ⟨false, [], [], .call 2 102 [.t 19, .t 21, .t 23] (.mt 5 [] 0 19 0), [24, 5, 19], (some 24), none⟩])))
  (.rg [o1 25 (.data (.bin .add) [.t 15, .c (.int .i64 (1))]),
    o1 15 (.copy 25)]))))))))
 (.seq (.rg [⟨false, [], [], .det 2 (.copy 5), [26, 5], (some 26), none⟩,
   ⟨false, [], [], .det 2 (.copy 26), [4, 26], (some 4), none⟩])
 .ret))))
def s_ilabelsAt : Sig := ⟨[.rd true [.d, .sl (.own none) [.d, .d, .d, .d]], .rd false [.d]], (.one false [.sl (.own none) [.d]])⟩
noncomputable def E_ilabelsAt : TEnv := envOf [(101, p_ifirst), (155, p_iforest), (102, p_iunion)]
noncomputable def f_ilabelsAt (n : Nat) : (Int × List (Int × Int × Int × Bool)) × Int → Option ((List (Int)) × Unit) := runFn n E_ilabelsAt c_ilabelsAt [[.i .i64, .sl [.i .i64, .i .i64, .i .i64, .b]], [.i .i64]] [.sl [.i .i64]] [] [4] .no
noncomputable def g_ilabelsAt := f_ilabelsAt BIG
noncomputable def p_ilabelsAt : TSp := ⟨s_ilabelsAt, [[.i .i64, .sl [.i .i64, .i .i64, .i .i64, .b]], [.i .i64]], [.sl [.i .i64]], [], Ou.j .no, g_ilabelsAt⟩
theorem k_ilabelsAt : chkW PG E_ilabelsAt 141 s_ilabelsAt (c_ilabelsAt.ht 27) .no = some (c_ilabelsAt.wc E_ilabelsAt, [4]) := by kernel_rfl
theorem ok_ilabelsAt : p_ilabelsAt.Ok PG 141 := mkOk (env_cons ok_ifirst (env_cons ok_iforest (env_cons ok_iunion (env_nil PG)))) k_ilabelsAt (by kernel_rfl)
theorem e_ilabelsAt (n : Nat) (a0 : Int × List (Int × Int × Int × Bool)) (a1 : Int) : f_ilabelsAt n (a0, a1) =
  Option.bind (g_ifirst a0.1) fun r0 =>
  Option.bind (Option.bind (g_iforest (a0, a1)) fun r1 =>
   loopT n (X := (List (Int)) × Int) (B := (List (Int))) (fun self3 x2 =>
    bif decide (x2.2 < (r1.1.length : Int)) then
     bnd r1.1.length x2.2 fun n4 =>
     Option.bind r1.1[n4]? fun y5 =>
     Option.bind (g_iunion (x2.1, y5.1, y5.2)) fun r6 =>
     self3 (r6.2, IntKind.wrap .i64 (x2.2 + (1 : Int)))
    else some x2.1) (r0.1, (0 : Int)) : Option ((List (Int)))) fun x7 =>
  some (x7, ()) := by kernel_rfl
/- impl.sizes -/
def c_isizes : TC :=
 (.seq (.rg [o1 4 (.lit [.i .i64] [.int .i64 (0)])])
 (.seq (.rg [o1 5 (.lit [.i .i64] [.int .i64 (0)])])
 (.seq (.join [⟨5, [.i .i64], false⟩] 1048480 none (.seq (.rg [o1 8 (.copy 0),
   o1 9 (.len 8),
   o1 10 (.lit [.i .i64] [.int .i64 (0)])])
 (.block 0 (.loop [⟨5, [.i .i64], false⟩, ⟨10, [.i .i64], false⟩] 1047712
  (.seq (.rg [o1 11 (.data (.bin .lss) [.t 10, .t 9])])
  (.seq (.cond (.t 11)
   .skip
   (.exit 0))
  (.seq (.join [⟨5, [.i .i64], false⟩] 520352 none (.block 1 (.seq (.rg [o1 12 (.index 8 (.t 10)),
    o1 13 (.load 8 [(0, 1)] 0 (.t 12) 1 false),
    o1 7 (.copy 13)])
  (.seq (.rg [o1 14 (.copy 7),
    o1 15 (.copy 1),
    o1 16 (.data (.bin .eql) [.t 14, .t 15])])
  (.cond (.t 16)
   (.rg [o1 17 (.copy 5),
     o1 18 (.data (.bin .add) [.t 17, .c (.int .i64 (1))]),
     o1 5 (.copy 18)])
   .skip)))))
  (.rg [o1 19 (.data (.bin .add) [.t 10, .c (.int .i64 (1))]),
    o1 10 (.copy 19)]))))))))
 (.seq (.rg [o1 20 (.copy 5),
   o1 4 (.copy 20)])
 .ret))))
def s_isizes : Sig := ⟨[.rd false [.sl (.own none) [.d]], .rd false [.d]], (.one false [.d])⟩
noncomputable def E_isizes : TEnv := envOf []
noncomputable def f_isizes (n : Nat) : List (Int) × Int → Option ((Int) × Unit) := runFn n E_isizes c_isizes [[.sl [.i .i64]], [.i .i64]] [.i .i64] [] [4] .no
noncomputable def g_isizes := f_isizes BIG
noncomputable def p_isizes : TSp := ⟨s_isizes, [[.sl [.i .i64]], [.i .i64]], [.i .i64], [], Ou.j .no, g_isizes⟩
theorem k_isizes : chkW PG E_isizes 156 s_isizes (c_isizes.ht 21) .no = some (c_isizes.wc E_isizes, [4]) := by kernel_rfl
theorem ok_isizes : p_isizes.Ok PG 156 := mkOk (env_nil PG) k_isizes (by kernel_rfl)
theorem e_isizes (n : Nat) (a0 : List (Int)) (a1 : Int) : f_isizes n (a0, a1) =
  Option.bind (loopT n (X := Int × Int) (B := Int) (fun self1 x0 =>
    bif decide (x0.2 < (a0.length : Int)) then
     Option.bind (bnd a0.length x0.2 fun n2 =>
      Option.bind a0[n2]? fun y3 =>
      bif decide (y3 = a1) then
       some (IntKind.wrap .i64 (x0.1 + (1 : Int)))
      else some x0.1 : Option (Int)) fun x4 =>
     self1 (x4, IntKind.wrap .i64 (x0.2 + (1 : Int)))
    else some x0.1) ((0 : Int), (0 : Int)) : Option (Int)) fun x5 =>
  some (x5, ()) := by kernel_rfl
/- impl.levelOk -/
def c_ilevelOk : TC :=
 (.seq (.rg [o1 2 (.a (.t 0)),
   o1 4 (.lit [.b] [.bool false])])
 (.seq (.rg [o1 8 (.load 2 [] 0 .nil 2 false),
   o1 9 (.copy 1),
   o3 10 141 [.t 8, .t 9],
   ⟨false, [], [], .det 2 (.copy 10), [5, 10], (some 5), none⟩])
 (.seq (.join [] 4294965392 (some [⟨4, [.b], false⟩]) (.seq (.rg [o1 11 (.load 2 [] 0 .nil 2 false),
   o1 12 (.copy 1),
   o3 13 155 [.t 11, .t 12],
   o1 14 (.len 13),
   o1 15 (.lit [.i .i64] [.int .i64 (0)])])
 (.block 0 (.loop [⟨15, [.i .i64], false⟩] 4294934672
  (.seq (.rg [o1 16 (.data (.bin .lss) [.t 15, .t 14])])
  (.seq (.cond (.t 16)
   .skip
   (.exit 0))
  (.seq (.block 1 (.seq (.rg [o1 17 (.index 13 (.t 15)),
    o1 18 (.load 13 [(0, 2)] 0 (.t 17) 2 false),
    ⟨false, [], [], .det 2 (.a (.c [.i .i64, .i .i64] [.int .i64 (0), .int .i64 (0)])), [7, 1000000001], (some 7), none⟩,
    o4 1 [7] (.store 7 [] 0 .nil (.t 18))])
  (.seq (.rg [⟨true, [], [], .det 1 (.copy 5), [19], (some 19), none⟩,
    ⟨true, [], [], .det 1 (.copy 5), [20], (some 20), none⟩,
    o1 21 (.idx .nil),
    o1 22 (.load 7 [] 0 (.t 21) 1 false),
    o1 23 (.index 20 (.t 22)),
    o1 24 (.load 5 [(0, 1)] 0 (.t 23) 1 false),
    o3 25 156 [.t 19, .t 24],
    o1 26 (.idx .nil),
    o1 27 (.load 2 [] 0 (.t 26) 1 false),
    o1 28 (.copy 1),
    o1 29 (.data (.bin .shr) [.t 27, .t 28]),
    o1 30 (.data (.bin .gtr) [.t 25, .t 29])])
  (.cond (.t 30)
   (.seq (.rg [o1 4 (.lit [.b] [.bool false])])
   .ret)
   .skip))))
  (.rg [o1 31 (.data (.bin .add) [.t 15, .c (.int .i64 (1))]),
    o1 15 (.copy 31)]))))))))
 (.seq (.rg [o1 4 (.lit [.b] [.bool true])])
 .ret))))
def s_ilevelOk : Sig := ⟨[.rd true [.d, .sl (.own none) [.d, .d, .d, .d]], .rd false [.d]], (.one false [.d])⟩
noncomputable def E_ilevelOk : TEnv := envOf [(141, p_ilabelsAt), (155, p_iforest), (156, p_isizes)]
noncomputable def f_ilevelOk (n : Nat) : (Int × List (Int × Int × Int × Bool)) × Int → Option ((Bool) × Unit) := runFn n E_ilevelOk c_ilevelOk [[.i .i64, .sl [.i .i64, .i .i64, .i .i64, .b]], [.i .i64]] [.b] [] [4] .no
noncomputable def g_ilevelOk := f_ilevelOk BIG
noncomputable def p_ilevelOk : TSp := ⟨s_ilevelOk, [[.i .i64, .sl [.i .i64, .i .i64, .i .i64, .b]], [.i .i64]], [.b], [], Ou.j .no, g_ilevelOk⟩
theorem k_ilevelOk : chkW PG E_ilevelOk 142 s_ilevelOk (c_ilevelOk.ht 32) .no = some (c_ilevelOk.wc E_ilevelOk, [4]) := by kernel_rfl
theorem ok_ilevelOk : p_ilevelOk.Ok PG 142 := mkOk (env_cons ok_ilabelsAt (env_cons ok_iforest (env_cons ok_isizes (env_nil PG)))) k_ilevelOk (by kernel_rfl)
theorem e_ilevelOk (n : Nat) (a0 : Int × List (Int × Int × Int × Bool)) (a1 : Int) : f_ilevelOk n (a0, a1) =
  Option.bind (g_ilabelsAt (a0, a1)) fun r0 =>
  Option.bind (Option.bind (g_iforest (a0, a1)) fun r1 =>
   loopT n (X := Int) (B := (Unit) ⊕ (Bool)) (fun self3 x2 =>
    bif decide (x2 < (r1.1.length : Int)) then
     bnd r1.1.length x2 fun n4 =>
     Option.bind r1.1[n4]? fun y5 =>
     bnd r0.1.length y5.1 fun n6 =>
     Option.bind r0.1[n6]? fun y7 =>
     Option.bind (g_isizes (r0.1, y7)) fun r8 =>
     bif decide (a1 < 0) then
      none
     else bif decide ((Int.fdiv a0.1 (2 ^ (Nat.min (Int.toNat a1) (IntKind.bits .i64)))) < r8.1) then
      some (Sum.inr false)
     else self3 (IntKind.wrap .i64 (x2 + (1 : Int)))
    else some (Sum.inl ())) (0 : Int) : Option ((Unit) ⊕ (Bool))) fun y => match y with
  | .inl x9 =>
   some (true, ())
  | .inr x9 =>
   some (x9, ()) := by kernel_rfl
/- impl.WebOk -/
def c_iWebOk : TC :=
 (.seq (.rg [o1 1 (.a (.t 0)),
   o1 2 (.lit [.b] [.bool false])])
 (.seq (.seq (.join [⟨17, [.b], false⟩] 262016 none (.rg [o1 7 (.load 1 [] 0 .nil 2 false),
   o3 8 139 [.t 7],
   o3 9 107 [.t 8],
   o1 10 (.data .not [.t 9]),
   o1 11 (.copy 10),
   o2 12 (.idx .nil) 4 false,
   o2 13 (.load 1 [] 0 (.t 12) 1 false) 4 false,
   o2 14 (.load 1 [] 0 .nil 2 false) 4 false,
   ⟨false, [], [], .call 1 140 [.t 14] .no, [15], (some 15), some (4, false)⟩,
   ⟨false, [], [], .call 1 44 [.t 13, .t 15] .no, [16], (some 16), some (4, false)⟩,
   ⟨false, [], [], .pick 11 (.c (.bool true)) (.t 16), [17], (some 17), none⟩]))
 (.cond (.t 17)
  (.seq (.rg [o1 2 (.lit [.b] [.bool false])])
  .ret)
  .skip))
 (.seq (.join [] 1125899906580532 (some [⟨2, [.b], false⟩]) (.seq (.rg [o1 18 (.idx .nil),
   o1 19 (.load 1 [] 1 (.t 18) 1 false),
   o1 20 (.len 19),
   o1 21 (.lit [.i .i64] [.int .i64 (0)])])
 (.block 0 (.loop [⟨21, [.i .i64], false⟩] 1125899904745524
  (.seq (.rg [o1 22 (.data (.bin .lss) [.t 21, .t 20])])
  (.seq (.cond (.t 22)
   .skip
   (.exit 0))
  (.seq (.join [] 562949945032756 (some [⟨2, [.b], false⟩]) (.block 1 (.seq (.rg [o1 23 (.index 19 (.t 21)),
    o1 24 (.load 19 [(0, 4)] 0 (.t 23) 4 false),
    ⟨false, [], [], .det 2 (.a (.c [.i .i64, .i .i64, .i .i64, .b] [.int .i64 (0), .int .i64 (0), .int .i64 (0), .bool false])), [4, 1000000001], (some 4), none⟩,
    o4 1 [4] (.store 4 [] 0 .nil (.t 24))])
  (.seq (.seq (.rg [o1 25 (.idx .nil),
    o1 26 (.load 4 [] 2 (.t 25) 1 false),
    o3 27 42 [.t 26, .c [.i .i64] [.int .i64 (0)], .c [.i .i64] [.int .i64 (4)]],
    o1 28 (.data .not [.t 27])])
  (.cond (.t 28)
   (.seq (.rg [o1 2 (.lit [.b] [.bool false])])
   .ret)
   .skip))
  (.seq (.rg [o1 29 (.load 1 [] 0 .nil 2 false),
    o1 30 (.idx .nil),
    o1 31 (.load 4 [] 2 (.t 30) 1 false),
    o3 32 141 [.t 29, .t 31],
    ⟨false, [], [], .det 2 (.copy 32), [5, 32], (some 5), none⟩])
  (.seq (.join [⟨48, [.b], false⟩] 562941363486720 none (.rg [o1 33 (.idx .nil),
    o1 34 (.load 4 [] 3 (.t 33) 1 false),
    o1 35 (.data .not [.t 34]),
    o1 36 (.copy 35),
    ⟨true, [], [], .det 1 (.copy 5), [37], (some 37), some (3, true)⟩,
    o2 38 (.idx .nil) 3 true,
    o2 39 (.load 4 [] 0 (.t 38) 1 false) 3 true,
    o2 40 (.index 37 (.t 39)) 3 true,
    o2 41 (.load 5 [(0, 1)] 0 (.t 40) 1 false) 3 true,
    ⟨true, [], [], .det 1 (.copy 5), [42], (some 42), some (3, true)⟩,
    o2 43 (.idx .nil) 3 true,
    o2 44 (.load 4 [] 1 (.t 43) 1 false) 3 true,
    o2 45 (.index 42 (.t 44)) 3 true,
    o2 46 (.load 5 [(0, 1)] 0 (.t 45) 1 false) 3 true,
    o2 47 (.data (.bin .neq) [.t 41, .t 46]) 3 true,
    ⟨false, [], [], .pick 36 (.t 47) (.c (.bool false)), [48], (some 48), none⟩]))
  (.cond (.t 48)
   (.seq (.rg [o1 2 (.lit [.b] [.bool false])])
   .ret)
   .skip)))))))
  (.rg [o1 49 (.data (.bin .add) [.t 21, .c (.int .i64 (1))]),
    o1 21 (.copy 49)]))))))))
 (.seq (.join [] 287104476244869188 (some [⟨2, [.b], false⟩]) (.seq (.rg [o1 6 (.lit [.i .i64] [.int .i64 (1)])])
 (.block 2 (.loop [⟨6, [.i .i64], false⟩] 287104476244869188
  (.seq (.seq (.rg [o1 50 (.copy 6),
    o1 51 (.data (.bin .leq) [.t 50, .c (.int .i64 (4))])])
  (.cond (.t 51)
   .skip
   (.exit 2)))
  (.seq (.block 3 (.seq (.rg [o1 54 (.load 1 [] 0 .nil 2 false),
    o1 55 (.copy 6),
    o3 56 142 [.t 54, .t 55],
    o1 57 (.data .not [.t 56])])
  (.cond (.t 57)
   (.seq (.rg [o1 2 (.lit [.b] [.bool false])])
   .ret)
   .skip)))
  (.rg [o1 52 (.copy 6),
    o1 53 (.data (.bin .add) [.t 52, .c (.int .i64 (1))]),
    o1 6 (.copy 53)])))))))
 (.seq (.rg [o1 2 (.lit [.b] [.bool true])])
 .ret)))))
def s_iWebOk : Sig := ⟨[.rd true [.d, .sl (.own none) [.d, .d, .d, .d]]], (.one false [.d])⟩
noncomputable def E_iWebOk : TEnv := envOf [(139, p_iGraphOf), (107, p_iGraphOk), (140, p_itreeEdges), (44, p_irings), (42, p_iin), (141, p_ilabelsAt), (142, p_ilevelOk)]
noncomputable def f_iWebOk (n : Nat) : (Int × List (Int × Int × Int × Bool)) → Option ((Bool) × Unit) := runFn n E_iWebOk c_iWebOk [[.i .i64, .sl [.i .i64, .i .i64, .i .i64, .b]]] [.b] [] [2] .no
noncomputable def g_iWebOk := f_iWebOk BIG
noncomputable def p_iWebOk : TSp := ⟨s_iWebOk, [[.i .i64, .sl [.i .i64, .i .i64, .i .i64, .b]]], [.b], [], Ou.j .no, g_iWebOk⟩
theorem k_iWebOk : chkW PG E_iWebOk 93 s_iWebOk (c_iWebOk.ht 58) .no = some (c_iWebOk.wc E_iWebOk, [2]) := by kernel_rfl
theorem ok_iWebOk : p_iWebOk.Ok PG 93 := mkOk (env_cons ok_iGraphOf (env_cons ok_iGraphOk (env_cons ok_itreeEdges (env_cons ok_irings (env_cons ok_iin (env_cons ok_ilabelsAt (env_cons ok_ilevelOk (env_nil PG)))))))) k_iWebOk (by kernel_rfl)
theorem e_iWebOk (n : Nat) (a0 : Int × List (Int × Int × Int × Bool)) : f_iWebOk n a0 =
  Option.bind (Option.bind (g_iGraphOf a0) fun r0 =>
   Option.bind (g_iGraphOk r0.1) fun r1 =>
   bif !r1.1 then
    some true
   else Option.bind (g_itreeEdges a0) fun r2 =>
   Option.bind (g_irings (a0.1, r2.1)) fun r3 =>
   some r3.1 : Option (Bool)) fun x4 =>
  bif x4 then
   some (false, ())
  else Option.bind (loopT n (X := Int) (B := (Unit) ⊕ (Bool)) (fun self6 x5 =>
    bif decide (x5 < (a0.2.length : Int)) then
     Option.bind (bnd a0.2.length x5 fun n7 =>
      Option.bind a0.2[n7]? fun y8 =>
      Option.bind (g_iin (y8.2.2.1, (0 : Int), (4 : Int))) fun r9 =>
      bif !r9.1 then
       some (Sum.inr false)
      else Option.bind (g_ilabelsAt (a0, y8.2.2.1)) fun r10 =>
      Option.bind (bif !y8.2.2.2 then
        bnd r10.1.length y8.1 fun n11 =>
        Option.bind r10.1[n11]? fun y12 =>
        bnd r10.1.length y8.2.1 fun n13 =>
        Option.bind r10.1[n13]? fun y14 =>
        some (!decide (y12 = y14))
       else some false : Option (Bool)) fun x15 =>
      bif x15 then
       some (Sum.inr false)
      else some (Sum.inl ()) : Option ((Unit) ⊕ (Bool))) fun y => match y with
     | .inl x16 =>
      self6 (IntKind.wrap .i64 (x5 + (1 : Int)))
     | .inr x16 =>
      some (Sum.inr x16)
    else some (Sum.inl ())) (0 : Int) : Option ((Unit) ⊕ (Bool))) fun y => match y with
  | .inl x17 =>
   Option.bind (loopT n (X := Int) (B := (Unit) ⊕ (Bool)) (fun self19 x18 =>
     bif decide (x18 ≤ (4 : Int)) then
      Option.bind (g_ilevelOk (a0, x18)) fun r20 =>
      bif !r20.1 then
       some (Sum.inr false)
      else self19 (IntKind.wrap .i64 (x18 + (1 : Int)))
     else some (Sum.inl ())) (1 : Int) : Option ((Unit) ⊕ (Bool))) fun y => match y with
   | .inl x21 =>
    some (true, ())
   | .inr x21 =>
    some (x21, ())
  | .inr x17 =>
   some (x17, ()) := by kernel_rfl
/- impl.noAnswer -/
def c_inoAnswer : TC :=
 (.seq (.rg [o1 1 (.a (.t 0)),
   o1 2 (.lit [.b] [.bool false])])
 (.seq (.join [⟨2, [.b], false⟩] 8388604 none (.rg [o1 3 (.idx .nil),
   o1 4 (.load 1 [] 0 (.t 3) 1 false),
   o1 5 (.data (.bin .eql) [.t 4, .c (.int .i64 (0))]),
   o1 6 (.copy 5),
   o2 7 (.idx .nil) 3 true,
   o2 8 (.load 1 [] 1 (.t 7) 1 false) 3 true,
   o2 9 (.data .not [.t 8]) 3 true,
   ⟨false, [], [], .pick 6 (.t 9) (.c (.bool false)), [10], (some 10), none⟩,
   o1 11 (.copy 10),
   o2 12 (.idx .nil) 8 true,
   o2 13 (.load 1 [] 2 (.t 12) 1 false) 8 true,
   o2 14 (.len 13) 8 true,
   o2 15 (.data (.bin .eql) [.t 14, .c (.int .i64 (0))]) 8 true,
   ⟨false, [], [], .pick 11 (.t 15) (.c (.bool false)), [16], (some 16), none⟩,
   o1 17 (.copy 16),
   o2 18 (.idx .nil) 14 true,
   o2 19 (.load 1 [] 3 (.t 18) 1 false) 14 true,
   o2 20 (.len 19) 14 true,
   o2 21 (.data (.bin .eql) [.t 20, .c (.int .i64 (0))]) 14 true,
   ⟨false, [], [], .pick 17 (.t 21) (.c (.bool false)), [22], (some 22), none⟩,
   o1 2 (.copy 22)]))
 .ret))
def s_inoAnswer : Sig := ⟨[.rd true [.d, .d, .sl (.own none) [.d, .d], .sl (.own none) [.d]]], (.one false [.d])⟩
noncomputable def E_inoAnswer : TEnv := envOf []
noncomputable def f_inoAnswer (n : Nat) : (Int × Bool × List (Int × Int) × List (Int)) → Option ((Bool) × Unit) := runFn n E_inoAnswer c_inoAnswer [[.i .i64, .b, .sl [.i .i64, .i .i64], .sl [.i .i64]]] [.b] [] [2] .no
noncomputable def g_inoAnswer := f_inoAnswer BIG
noncomputable def p_inoAnswer : TSp := ⟨s_inoAnswer, [[.i .i64, .b, .sl [.i .i64, .i .i64], .sl [.i .i64]]], [.b], [], Ou.j .no, g_inoAnswer⟩
theorem k_inoAnswer : chkW PG E_inoAnswer 94 s_inoAnswer (c_inoAnswer.ht 23) .no = some (c_inoAnswer.wc E_inoAnswer, [2]) := by kernel_rfl
theorem ok_inoAnswer : p_inoAnswer.Ok PG 94 := mkOk (env_nil PG) k_inoAnswer (by kernel_rfl)
theorem e_inoAnswer (n : Nat) (a0 : Int × Bool × List (Int × Int) × List (Int)) : f_inoAnswer n a0 =
  Option.bind (bif decide (a0.1 = (0 : Int)) then
    bif !a0.2.1 then
     bif decide ((a0.2.2.1.length : Int) = (0 : Int)) then
      some (decide ((a0.2.2.2.length : Int) = (0 : Int)))
     else some false
    else some false
   else some false : Option (Bool)) fun x0 =>
  some (x0, ()) := by kernel_rfl
/- impl.labelsOk -/
def c_ilabelsOk : TC :=
 (.seq (.rg [o1 4 (.lit [.b] [.bool false])])
 (.seq (.seq (.rg [o1 7 (.copy 1),
   o1 8 (.len 7),
   o1 9 (.copy 0),
   o1 10 (.data (.bin .neq) [.t 8, .t 9])])
 (.cond (.t 10)
  (.seq (.rg [o1 4 (.lit [.b] [.bool false])])
  .ret)
  .skip))
 (.seq (.join [] 2147481712 (some [⟨4, [.b], false⟩]) (.seq (.rg [o1 11 (.copy 1),
   o1 12 (.len 11),
   o1 13 (.lit [.i .i64] [.int .i64 (0)])])
 (.block 0 (.loop [⟨13, [.i .i64], false⟩] 2147475568
  (.seq (.rg [o1 14 (.data (.bin .lss) [.t 13, .t 12])])
  (.seq (.cond (.t 14)
   .skip
   (.exit 0))
  (.seq (.join [] 1073709168 (some [⟨4, [.b], false⟩]) (.block 1 (.seq (.rg [o1 15 (.copy 13),
    o1 16 (.index 11 (.t 13)),
    o1 17 (.load 11 [(0, 1)] 0 (.t 16) 1 false),
    o1 5 (.copy 15),
    o1 6 (.copy 17)])
  (.seq (.join [⟨29, [.b], false⟩] 1073479680 none (.rg [o1 18 (.copy 6),
    o1 19 (.copy 5),
    o3 20 42 [.t 18, .c [.i .i64] [.int .i64 (0)], .t 19],
    o1 21 (.data .not [.t 20]),
    o1 22 (.copy 21),
    o2 23 (.copy 1) 4 false,
    o2 24 (.copy 6) 4 false,
    o2 25 (.index 23 (.t 24)) 4 false,
    o2 26 (.load 23 [(0, 1)] 0 (.t 25) 1 false) 4 false,
    o2 27 (.copy 6) 4 false,
    o2 28 (.data (.bin .neq) [.t 26, .t 27]) 4 false,
    ⟨false, [], [], .pick 22 (.c (.bool true)) (.t 28), [29], (some 29), none⟩]))
  (.cond (.t 29)
   (.seq (.rg [o1 4 (.lit [.b] [.bool false])])
   .ret)
   .skip)))))
  (.rg [o1 30 (.data (.bin .add) [.t 13, .c (.int .i64 (1))]),
    o1 13 (.copy 30)]))))))))
 (.seq (.rg [o1 4 (.lit [.b] [.bool true])])
 .ret))))
def s_ilabelsOk : Sig := ⟨[.rd false [.d], .rd false [.sl (.own none) [.d]]], (.one false [.d])⟩
noncomputable def E_ilabelsOk : TEnv := envOf [(42, p_iin)]
noncomputable def f_ilabelsOk (n : Nat) : Int × List (Int) → Option ((Bool) × Unit) := runFn n E_ilabelsOk c_ilabelsOk [[.i .i64], [.sl [.i .i64]]] [.b] [] [4] .no
noncomputable def g_ilabelsOk := f_ilabelsOk BIG
noncomputable def p_ilabelsOk : TSp := ⟨s_ilabelsOk, [[.i .i64], [.sl [.i .i64]]], [.b], [], Ou.j .no, g_ilabelsOk⟩
theorem k_ilabelsOk : chkW PG E_ilabelsOk 74 s_ilabelsOk (c_ilabelsOk.ht 31) .no = some (c_ilabelsOk.wc E_ilabelsOk, [4]) := by kernel_rfl
theorem ok_ilabelsOk : p_ilabelsOk.Ok PG 74 := mkOk (env_cons ok_iin (env_nil PG)) k_ilabelsOk (by kernel_rfl)
theorem e_ilabelsOk (n : Nat) (a0 : Int) (a1 : List (Int)) : f_ilabelsOk n (a0, a1) =
  bif !decide ((a1.length : Int) = a0) then
   some (false, ())
  else Option.bind (loopT n (X := Int) (B := (Unit) ⊕ (Bool)) (fun self1 x0 =>
    bif decide (x0 < (a1.length : Int)) then
     Option.bind (bnd a1.length x0 fun n2 =>
      Option.bind a1[n2]? fun y3 =>
      Option.bind (Option.bind (g_iin (y3, (0 : Int), x0)) fun r4 =>
       bif !r4.1 then
        some true
       else bnd a1.length y3 fun n5 =>
       Option.bind a1[n5]? fun y6 =>
       some (!decide (y6 = y3)) : Option (Bool)) fun x7 =>
      bif x7 then
       some (Sum.inr false)
      else some (Sum.inl ()) : Option ((Unit) ⊕ (Bool))) fun y => match y with
     | .inl x8 =>
      self1 (IntKind.wrap .i64 (x0 + (1 : Int)))
     | .inr x8 =>
      some (Sum.inr x8)
    else some (Sum.inl ())) (0 : Int) : Option ((Unit) ⊕ (Bool))) fun y => match y with
  | .inl x9 =>
   some (true, ())
  | .inr x9 =>
   some (x9, ()) := by kernel_rfl
/- impl.AnswerOk -/
def c_iAnswerOk : TC :=
 (.seq (.rg [o1 3 (.a (.t 1)),
   o1 4 (.lit [.b] [.bool false])])
 (.seq (.join [⟨4, [.b], false⟩] 16777200 none (.rg [o1 5 (.copy 0),
   o3 6 42 [.t 5, .c [.i .i64] [.int .i64 (1)], .c [.i .i64] [.int .i64 (12)]],
   o1 7 (.copy 6),
   o2 8 (.idx .nil) 2 true,
   o2 9 (.load 3 [] 0 (.t 8) 1 false) 2 true,
   ⟨false, [], [], .call 1 42 [.t 9, .c [.i .i64] [.int .i64 (1)], .c [.i .i64] [.int .i64 (100000)]] .no, [10], (some 10), some (2, true)⟩,
   ⟨false, [], [], .pick 7 (.t 10) (.c (.bool false)), [11], (some 11), none⟩,
   o1 12 (.copy 11),
   o2 13 (.copy 0) 7 true,
   o2 14 (.idx .nil) 7 true,
   o2 15 (.load 3 [] 2 (.t 14) 1 false) 7 true,
   ⟨false, [], [], .call 1 71 [.t 13, .t 15] .no, [16], (some 16), some (7, true)⟩,
   ⟨false, [], [], .pick 12 (.t 16) (.c (.bool false)), [17], (some 17), none⟩,
   o1 18 (.copy 17),
   o2 19 (.copy 0) 13 true,
   o2 20 (.idx .nil) 13 true,
   o2 21 (.load 3 [] 3 (.t 20) 1 false) 13 true,
   ⟨false, [], [], .call 1 74 [.t 19, .t 21] .no, [22], (some 22), some (13, true)⟩,
   ⟨false, [], [], .pick 18 (.t 22) (.c (.bool false)), [23], (some 23), none⟩,
   o1 4 (.copy 23)]))
 .ret))
def s_iAnswerOk : Sig := ⟨[.rd false [.d], .rd true [.d, .d, .sl (.own none) [.d, .d], .sl (.own none) [.d]]], (.one false [.d])⟩
noncomputable def E_iAnswerOk : TEnv := envOf [(42, p_iin), (71, p_iedgesOk), (74, p_ilabelsOk)]
noncomputable def f_iAnswerOk (n : Nat) : Int × (Int × Bool × List (Int × Int) × List (Int)) → Option ((Bool) × Unit) := runFn n E_iAnswerOk c_iAnswerOk [[.i .i64], [.i .i64, .b, .sl [.i .i64, .i .i64], .sl [.i .i64]]] [.b] [] [4] .no
noncomputable def g_iAnswerOk := f_iAnswerOk BIG
noncomputable def p_iAnswerOk : TSp := ⟨s_iAnswerOk, [[.i .i64], [.i .i64, .b, .sl [.i .i64, .i .i64], .sl [.i .i64]]], [.b], [], Ou.j .no, g_iAnswerOk⟩
theorem k_iAnswerOk : chkW PG E_iAnswerOk 28 s_iAnswerOk (c_iAnswerOk.ht 24) .no = some (c_iAnswerOk.wc E_iAnswerOk, [4]) := by kernel_rfl
theorem ok_iAnswerOk : p_iAnswerOk.Ok PG 28 := mkOk (env_cons ok_iin (env_cons ok_iedgesOk (env_cons ok_ilabelsOk (env_nil PG)))) k_iAnswerOk (by kernel_rfl)
theorem e_iAnswerOk (n : Nat) (a0 : Int) (a1 : Int × Bool × List (Int × Int) × List (Int)) : f_iAnswerOk n (a0, a1) =
  Option.bind (Option.bind (g_iin (a0, (1 : Int), (12 : Int))) fun r0 =>
   bif r0.1 then
    Option.bind (g_iin (a1.1, (1 : Int), (100000 : Int))) fun r1 =>
    bif r1.1 then
     Option.bind (g_iedgesOk (a0, a1.2.2.1)) fun r2 =>
     bif r2.1 then
      Option.bind (g_ilabelsOk (a0, a1.2.2.2)) fun r3 =>
      some r3.1
     else some false
    else some false
   else some false : Option (Bool)) fun x4 =>
  some (x4, ()) := by kernel_rfl
/- impl.WebLabels -/
def c_iWebLabels : TC :=
 (.seq (.rg [o1 1 (.a (.t 0)),
   o1 2 (.lit [.sl [.i .i64]] [.slice none 0 0])])
 (.seq (.seq (.rg [o1 3 (.load 1 [] 0 .nil 2 false),
   o3 4 93 [.t 3],
   o1 5 (.data .not [.t 4])])
 (.cond (.t 5)
  (.seq (.rg [o1 2 (.lit [.sl [.i .i64]] [.slice none 0 0])])
  .ret)
  .skip))
 (.seq (.rg [o1 6 (.load 1 [] 0 .nil 2 false),
   o3 7 141 [.t 6, .c [.i .i64] [.int .i64 (0)]],
   ⟨false, [], [], .det 2 (.copy 7), [2, 7], (some 2), none⟩])
 .ret)))
def s_iWebLabels : Sig := ⟨[.rd true [.d, .sl (.own none) [.d, .d, .d, .d]]], (.one false [.sl (.own none) [.d]])⟩
noncomputable def E_iWebLabels : TEnv := envOf [(93, p_iWebOk), (141, p_ilabelsAt)]
noncomputable def f_iWebLabels (n : Nat) : (Int × List (Int × Int × Int × Bool)) → Option ((List (Int)) × Unit) := runFn n E_iWebLabels c_iWebLabels [[.i .i64, .sl [.i .i64, .i .i64, .i .i64, .b]]] [.sl [.i .i64]] [] [2] .no
noncomputable def g_iWebLabels := f_iWebLabels BIG
noncomputable def p_iWebLabels : TSp := ⟨s_iWebLabels, [[.i .i64, .sl [.i .i64, .i .i64, .i .i64, .b]]], [.sl [.i .i64]], [], Ou.j .no, g_iWebLabels⟩
theorem k_iWebLabels : chkW PG E_iWebLabels 96 s_iWebLabels (c_iWebLabels.ht 8) .no = some (c_iWebLabels.wc E_iWebLabels, [2]) := by kernel_rfl
theorem ok_iWebLabels : p_iWebLabels.Ok PG 96 := mkOk (env_cons ok_iWebOk (env_cons ok_ilabelsAt (env_nil PG))) k_iWebLabels (by kernel_rfl)
theorem e_iWebLabels (n : Nat) (a0 : Int × List (Int × Int × Int × Bool)) : f_iWebLabels n a0 =
  Option.bind (g_iWebOk a0) fun r0 =>
  bif !r0.1 then
   some ([], ())
  else Option.bind (g_ilabelsAt (a0, (0 : Int))) fun r1 =>
  some (r1.1, ()) := by kernel_rfl
/- impl.sameInts -/
def c_isameInts : TC :=
 (.seq (.rg [o1 4 (.lit [.b] [.bool false])])
 (.seq (.seq (.rg [o1 6 (.copy 0),
   o1 7 (.len 6),
   o1 8 (.copy 1),
   o1 9 (.len 8),
   o1 10 (.data (.bin .neq) [.t 7, .t 9])])
 (.cond (.t 10)
  (.seq (.rg [o1 4 (.lit [.b] [.bool false])])
  .ret)
  .skip))
 (.seq (.join [] 67106864 (some [⟨4, [.b], false⟩]) (.seq (.rg [o1 11 (.copy 0),
   o1 12 (.len 11),
   o1 13 (.lit [.i .i64] [.int .i64 (0)])])
 (.block 0 (.loop [⟨13, [.i .i64], false⟩] 67100720
  (.seq (.rg [o1 14 (.data (.bin .lss) [.t 13, .t 12])])
  (.seq (.cond (.t 14)
   .skip
   (.exit 0))
  (.seq (.block 1 (.seq (.rg [o1 15 (.copy 13),
    o1 5 (.copy 15)])
  (.seq (.rg [o1 16 (.copy 0),
    o1 17 (.copy 5),
    o1 18 (.index 16 (.t 17)),
    o1 19 (.load 16 [(0, 1)] 0 (.t 18) 1 false),
    o1 20 (.copy 1),
    o1 21 (.copy 5),
    o1 22 (.index 20 (.t 21)),
    o1 23 (.load 20 [(0, 1)] 0 (.t 22) 1 false),
    o1 24 (.data (.bin .neq) [.t 19, .t 23])])
  (.cond (.t 24)
   (.seq (.rg [o1 4 (.lit [.b] [.bool false])])
   .ret)
   .skip))))
  (.rg [o1 25 (.data (.bin .add) [.t 13, .c (.int .i64 (1))]),
    o1 13 (.copy 25)]))))))))
 (.seq (.rg [o1 4 (.lit [.b] [.bool true])])
 .ret))))
def s_isameInts : Sig := ⟨[.rd false [.sl (.own none) [.d]], .rd false [.sl (.own none) [.d]]], (.one false [.d])⟩
noncomputable def E_isameInts : TEnv := envOf []
noncomputable def f_isameInts (n : Nat) : List (Int) × List (Int) → Option ((Bool) × Unit) := runFn n E_isameInts c_isameInts [[.sl [.i .i64]], [.sl [.i .i64]]] [.b] [] [4] .no
noncomputable def g_isameInts := f_isameInts BIG
noncomputable def p_isameInts : TSp := ⟨s_isameInts, [[.sl [.i .i64]], [.sl [.i .i64]]], [.b], [], Ou.j .no, g_isameInts⟩
theorem k_isameInts : chkW PG E_isameInts 95 s_isameInts (c_isameInts.ht 26) .no = some (c_isameInts.wc E_isameInts, [4]) := by kernel_rfl
theorem ok_isameInts : p_isameInts.Ok PG 95 := mkOk (env_nil PG) k_isameInts (by kernel_rfl)
theorem e_isameInts (n : Nat) (a0 : List (Int)) (a1 : List (Int)) : f_isameInts n (a0, a1) =
  bif !decide ((a0.length : Int) = (a1.length : Int)) then
   some (false, ())
  else Option.bind (loopT n (X := Int) (B := (Unit) ⊕ (Bool)) (fun self1 x0 =>
    bif decide (x0 < (a0.length : Int)) then
     bnd a0.length x0 fun n2 =>
     Option.bind a0[n2]? fun y3 =>
     bnd a1.length x0 fun n4 =>
     Option.bind a1[n4]? fun y5 =>
     bif !decide (y3 = y5) then
      some (Sum.inr false)
     else self1 (IntKind.wrap .i64 (x0 + (1 : Int)))
    else some (Sum.inl ())) (0 : Int) : Option ((Unit) ⊕ (Bool))) fun y => match y with
  | .inl x6 =>
   some (true, ())
  | .inr x6 =>
   some (x6, ()) := by kernel_rfl
/- impl.ShardOk -/
def c_iShardOk : TC :=
 (.seq (.rg [o1 1 (.a (.t 0)),
   o1 2 (.lit [.b] [.bool false])])
 (.seq (.seq (.join [⟨12, [.b], false⟩] 8184 none (.rg [o1 3 (.idx .nil),
   o1 4 (.load 1 [] 0 (.t 3) 1 false),
   o3 5 42 [.t 4, .c [.i .i64] [.int .i64 (1)], .c [.i .i64] [.int .i64 (3)]],
   o1 6 (.data .not [.t 5]),
   o1 7 (.copy 6),
   o2 8 (.idx .nil) 4 false,
   o2 9 (.load 1 [] 1 (.t 8) 2 false) 4 false,
   ⟨false, [], [], .call 1 93 [.t 9] .no, [10], (some 10), some (4, false)⟩,
   o2 11 (.data .not [.t 10]) 4 false,
   ⟨false, [], [], .pick 7 (.c (.bool true)) (.t 11), [12], (some 12), none⟩]))
 (.cond (.t 12)
  (.seq (.rg [o1 2 (.lit [.b] [.bool false])])
  .ret)
  .skip))
 (.seq (.join [⟨2, [.b], false⟩] 8589926404 none (.rg [o1 13 (.idx .nil),
   o1 14 (.load 1 [] 3 (.t 13) 4 false),
   o3 15 94 [.t 14],
   o1 16 (.copy 15),
   o2 17 (.idx .nil) 3 false,
   o2 18 (.idx (.t 17)) 3 false,
   o2 19 (.load 1 [] 1 (.t 18) 1 false) 3 false,
   o2 20 (.idx .nil) 3 false,
   o2 21 (.load 1 [] 3 (.t 20) 4 false) 3 false,
   ⟨false, [], [], .call 1 28 [.t 19, .t 21] .no, [22], (some 22), some (3, false)⟩,
   o2 23 (.copy 22) 3 false,
   o2 24 (.idx .nil) 10 true,
   o2 25 (.idx (.t 24)) 10 true,
   o2 26 (.load 1 [] 6 (.t 25) 1 false) 10 true,
   o2 27 (.idx .nil) 10 true,
   o2 28 (.load 1 [] 1 (.t 27) 2 false) 10 true,
   ⟨false, [], [], .call 1 96 [.t 28] .no, [29], (some 29), some (10, true)⟩,
   ⟨false, [], [], .call 1 95 [.t 26, .t 29] .no, [30], (some 30), some (10, true)⟩,
   ⟨false, [], [], .pick 23 (.t 30) (.c (.bool false)), [31], (some 31), some (3, false)⟩,
   ⟨false, [], [], .pick 16 (.c (.bool true)) (.t 31), [32], (some 32), none⟩,
   o1 2 (.copy 32)]))
 .ret)))
def s_iShardOk : Sig := ⟨[.rd true [.d, .d, .sl (.own none) [.d, .d, .d, .d], .d, .d, .sl (.own none) [.d, .d], .sl (.own none) [.d]]], (.one false [.d])⟩
noncomputable def E_iShardOk : TEnv := envOf [(42, p_iin), (93, p_iWebOk), (94, p_inoAnswer), (28, p_iAnswerOk), (96, p_iWebLabels), (95, p_isameInts)]
noncomputable def f_iShardOk (n : Nat) : (Int × Int × List (Int × Int × Int × Bool) × Int × Bool × List (Int × Int) × List (Int)) → Option ((Bool) × Unit) := runFn n E_iShardOk c_iShardOk [[.i .i64, .i .i64, .sl [.i .i64, .i .i64, .i .i64, .b], .i .i64, .b, .sl [.i .i64, .i .i64], .sl [.i .i64]]] [.b] [] [2] .no
noncomputable def g_iShardOk := f_iShardOk BIG
noncomputable def p_iShardOk : TSp := ⟨s_iShardOk, [[.i .i64, .i .i64, .sl [.i .i64, .i .i64, .i .i64, .b], .i .i64, .b, .sl [.i .i64, .i .i64], .sl [.i .i64]]], [.b], [], Ou.j .no, g_iShardOk⟩
theorem k_iShardOk : chkW PG E_iShardOk 37 s_iShardOk (c_iShardOk.ht 33) .no = some (c_iShardOk.wc E_iShardOk, [2]) := by kernel_rfl
theorem ok_iShardOk : p_iShardOk.Ok PG 37 := mkOk (env_cons ok_iin (env_cons ok_iWebOk (env_cons ok_inoAnswer (env_cons ok_iAnswerOk (env_cons ok_iWebLabels (env_cons ok_isameInts (env_nil PG))))))) k_iShardOk (by kernel_rfl)
theorem e_iShardOk (n : Nat) (a0 : Int × Int × List (Int × Int × Int × Bool) × Int × Bool × List (Int × Int) × List (Int)) : f_iShardOk n a0 =
  Option.bind (Option.bind (g_iin (a0.1, (1 : Int), (3 : Int))) fun r0 =>
   bif !r0.1 then
    some true
   else Option.bind (g_iWebOk (a0.2.1, a0.2.2.1)) fun r1 =>
   some !r1.1 : Option (Bool)) fun x2 =>
  bif x2 then
   some (false, ())
  else Option.bind (Option.bind (g_inoAnswer a0.2.2.2) fun r3 =>
   bif r3.1 then
    some true
   else Option.bind (g_iAnswerOk (a0.2.1, a0.2.2.2)) fun r4 =>
   bif r4.1 then
    Option.bind (g_iWebLabels (a0.2.1, a0.2.2.1)) fun r5 =>
    Option.bind (g_isameInts (a0.2.2.2.2.2.2, r5.1)) fun r6 =>
    some r6.1
   else some false : Option (Bool)) fun x7 =>
  some (x7, ()) := by kernel_rfl
/- laws.eqLedge -/
def c_leqLedge : TC :=
 (.seq (.rg [o1 2 (.a (.t 0)),
   o1 3 (.a (.t 1)),
   o1 4 (.lit [.b] [.bool false])])
 (.seq (.seq (.rg [o1 5 (.idx .nil),
   o1 6 (.load 2 [] 0 (.t 5) 1 false),
   o1 7 (.idx .nil),
   o1 8 (.load 3 [] 0 (.t 7) 1 false),
   o1 9 (.data (.bin .neq) [.t 6, .t 8])])
 (.cond (.t 9)
  (.seq (.rg [o1 4 (.lit [.b] [.bool false])])
  .ret)
  .skip))
 (.seq (.seq (.rg [o1 10 (.idx .nil),
   o1 11 (.load 2 [] 1 (.t 10) 1 false),
   o1 12 (.idx .nil),
   o1 13 (.load 3 [] 1 (.t 12) 1 false),
   o1 14 (.data (.bin .neq) [.t 11, .t 13])])
 (.cond (.t 14)
  (.seq (.rg [o1 4 (.lit [.b] [.bool false])])
  .ret)
  .skip))
 (.seq (.seq (.rg [o1 15 (.idx .nil),
   o1 16 (.load 2 [] 2 (.t 15) 1 false),
   o1 17 (.idx .nil),
   o1 18 (.load 3 [] 2 (.t 17) 1 false),
   o1 19 (.data (.bin .neq) [.t 16, .t 18])])
 (.cond (.t 19)
  (.seq (.rg [o1 4 (.lit [.b] [.bool false])])
  .ret)
  .skip))
 (.seq (.seq (.rg [o1 20 (.idx .nil),
   o1 21 (.load 2 [] 3 (.t 20) 1 false),
   o1 22 (.idx .nil),
   o1 23 (.load 3 [] 3 (.t 22) 1 false),
   o1 24 (.data (.beq true) [.t 21, .t 23])])
 (.cond (.t 24)
  (.seq (.rg [o1 4 (.lit [.b] [.bool false])])
  .ret)
  .skip))
 (.seq (.rg [o1 4 (.lit [.b] [.bool true])])
 .ret))))))
def s_leqLedge : Sig := ⟨[.rd true [.d, .d, .d, .d], .rd true [.d, .d, .d, .d]], (.one false [.d])⟩
noncomputable def E_leqLedge : TEnv := envOf []
noncomputable def f_leqLedge (n : Nat) : (Int × Int × Int × Bool) × (Int × Int × Int × Bool) → Option ((Bool) × Unit) := runFn n E_leqLedge c_leqLedge [[.i .i64, .i .i64, .i .i64, .b], [.i .i64, .i .i64, .i .i64, .b]] [.b] [] [4] .no
noncomputable def g_leqLedge := f_leqLedge BIG
noncomputable def p_leqLedge : TSp := ⟨s_leqLedge, [[.i .i64, .i .i64, .i .i64, .b], [.i .i64, .i .i64, .i .i64, .b]], [.b], [], Ou.j .no, g_leqLedge⟩
theorem k_leqLedge : chkW PG E_leqLedge 157 s_leqLedge (c_leqLedge.ht 25) .no = some (c_leqLedge.wc E_leqLedge, [4]) := by kernel_rfl
theorem ok_leqLedge : p_leqLedge.Ok PG 157 := mkOk (env_nil PG) k_leqLedge (by kernel_rfl)
theorem e_leqLedge (n : Nat) (a0 : Int × Int × Int × Bool) (a1 : Int × Int × Int × Bool) : f_leqLedge n (a0, a1) =
  bif !decide (a0.1 = a1.1) then
   some (false, ())
  else bif !decide (a0.2.1 = a1.2.1) then
   some (false, ())
  else bif !decide (a0.2.2.1 = a1.2.2.1) then
   some (false, ())
  else bif !(a0.2.2.2 == a1.2.2.2) then
   some (false, ())
  else some (true, ()) := by kernel_rfl
/- laws.eqLedgeS -/
def c_leqLedgeS : TC :=
 (.seq (.rg [o1 4 (.lit [.b] [.bool false])])
 (.seq (.seq (.rg [o1 6 (.copy 0),
   o1 7 (.len 6),
   o1 8 (.copy 1),
   o1 9 (.len 8),
   o1 10 (.data (.bin .neq) [.t 7, .t 9])])
 (.cond (.t 10)
  (.seq (.rg [o1 4 (.lit [.b] [.bool false])])
  .ret)
  .skip))
 (.seq (.join [] 134215728 (some [⟨4, [.b], false⟩]) (.seq (.rg [o1 5 (.lit [.i .i64] [.int .i64 (0)])])
 (.block 0 (.loop [⟨5, [.i .i64], false⟩] 134215728
  (.seq (.seq (.rg [o1 11 (.copy 5),
    o1 12 (.copy 0),
    o1 13 (.len 12),
    o1 14 (.data (.bin .lss) [.t 11, .t 13])])
  (.cond (.t 14)
   .skip
   (.exit 0)))
  (.seq (.block 1 (.seq (.rg [o1 17 (.copy 0),
    o1 18 (.copy 5),
    o1 19 (.index 17 (.t 18)),
    o1 20 (.load 17 [(0, 4)] 0 (.t 19) 4 false),
    o1 21 (.copy 1),
    o1 22 (.copy 5),
    o1 23 (.index 21 (.t 22)),
    o1 24 (.load 21 [(0, 4)] 0 (.t 23) 4 false),
    o3 25 157 [.t 20, .t 24],
    o1 26 (.data .not [.t 25])])
  (.cond (.t 26)
   (.seq (.rg [o1 4 (.lit [.b] [.bool false])])
   .ret)
   .skip)))
  (.rg [o1 15 (.copy 5),
    o1 16 (.data (.bin .add) [.t 15, .c (.int .i64 (1))]),
    o1 5 (.copy 16)])))))))
 (.seq (.rg [o1 4 (.lit [.b] [.bool true])])
 .ret))))
def s_leqLedgeS : Sig := ⟨[.rd false [.sl (.own none) [.d, .d, .d, .d]], .rd false [.sl (.own none) [.d, .d, .d, .d]]], (.one false [.d])⟩
noncomputable def E_leqLedgeS : TEnv := envOf [(157, p_leqLedge)]
noncomputable def f_leqLedgeS (n : Nat) : (List (Int × Int × Int × Bool)) × (List (Int × Int × Int × Bool)) → Option ((Bool) × Unit) := runFn n E_leqLedgeS c_leqLedgeS [[.sl [.i .i64, .i .i64, .i .i64, .b]], [.sl [.i .i64, .i .i64, .i .i64, .b]]] [.b] [] [4] .no
noncomputable def g_leqLedgeS := f_leqLedgeS BIG
noncomputable def p_leqLedgeS : TSp := ⟨s_leqLedgeS, [[.sl [.i .i64, .i .i64, .i .i64, .b]], [.sl [.i .i64, .i .i64, .i .i64, .b]]], [.b], [], Ou.j .no, g_leqLedgeS⟩
theorem k_leqLedgeS : chkW PG E_leqLedgeS 143 s_leqLedgeS (c_leqLedgeS.ht 27) .no = some (c_leqLedgeS.wc E_leqLedgeS, [4]) := by kernel_rfl
theorem ok_leqLedgeS : p_leqLedgeS.Ok PG 143 := mkOk (env_cons ok_leqLedge (env_nil PG)) k_leqLedgeS (by kernel_rfl)
theorem e_leqLedgeS (n : Nat) (a0 : List (Int × Int × Int × Bool)) (a1 : List (Int × Int × Int × Bool)) : f_leqLedgeS n (a0, a1) =
  bif !decide ((a0.length : Int) = (a1.length : Int)) then
   some (false, ())
  else Option.bind (loopT n (X := Int) (B := (Unit) ⊕ (Bool)) (fun self1 x0 =>
    bif decide (x0 < (a0.length : Int)) then
     bnd a0.length x0 fun n2 =>
     Option.bind a0[n2]? fun y3 =>
     bnd a1.length x0 fun n4 =>
     Option.bind a1[n4]? fun y5 =>
     Option.bind (g_leqLedge (y3, y5)) fun r6 =>
     bif !r6.1 then
      some (Sum.inr false)
     else self1 (IntKind.wrap .i64 (x0 + (1 : Int)))
    else some (Sum.inl ())) (0 : Int) : Option ((Unit) ⊕ (Bool))) fun y => match y with
  | .inl x7 =>
   some (true, ())
  | .inr x7 =>
   some (x7, ()) := by kernel_rfl
/- laws.eqWeb -/
def c_leqWeb : TC :=
 (.seq (.rg [o1 2 (.a (.t 0)),
   o1 3 (.a (.t 1)),
   o1 4 (.lit [.b] [.bool false])])
 (.seq (.seq (.rg [o1 5 (.idx .nil),
   o1 6 (.load 2 [] 0 (.t 5) 1 false),
   o1 7 (.idx .nil),
   o1 8 (.load 3 [] 0 (.t 7) 1 false),
   o1 9 (.data (.bin .neq) [.t 6, .t 8])])
 (.cond (.t 9)
  (.seq (.rg [o1 4 (.lit [.b] [.bool false])])
  .ret)
  .skip))
 (.seq (.seq (.rg [o1 10 (.idx .nil),
   o1 11 (.load 2 [] 1 (.t 10) 1 false),
   o1 12 (.idx .nil),
   o1 13 (.load 3 [] 1 (.t 12) 1 false),
   o3 14 143 [.t 11, .t 13],
   o1 15 (.data .not [.t 14])])
 (.cond (.t 15)
  (.seq (.rg [o1 4 (.lit [.b] [.bool false])])
  .ret)
  .skip))
 (.seq (.rg [o1 4 (.lit [.b] [.bool true])])
 .ret))))
def s_leqWeb : Sig := ⟨[.rd true [.d, .sl (.own none) [.d, .d, .d, .d]], .rd true [.d, .sl (.own none) [.d, .d, .d, .d]]], (.one false [.d])⟩
noncomputable def E_leqWeb : TEnv := envOf [(143, p_leqLedgeS)]
noncomputable def f_leqWeb (n : Nat) : (Int × List (Int × Int × Int × Bool)) × (Int × List (Int × Int × Int × Bool)) → Option ((Bool) × Unit) := runFn n E_leqWeb c_leqWeb [[.i .i64, .sl [.i .i64, .i .i64, .i .i64, .b]], [.i .i64, .sl [.i .i64, .i .i64, .i .i64, .b]]] [.b] [] [4] .no
noncomputable def g_leqWeb := f_leqWeb BIG
noncomputable def p_leqWeb : TSp := ⟨s_leqWeb, [[.i .i64, .sl [.i .i64, .i .i64, .i .i64, .b]], [.i .i64, .sl [.i .i64, .i .i64, .i .i64, .b]]], [.b], [], Ou.j .no, g_leqWeb⟩
theorem k_leqWeb : chkW PG E_leqWeb 97 s_leqWeb (c_leqWeb.ht 16) .no = some (c_leqWeb.wc E_leqWeb, [4]) := by kernel_rfl
theorem ok_leqWeb : p_leqWeb.Ok PG 97 := mkOk (env_cons ok_leqLedgeS (env_nil PG)) k_leqWeb (by kernel_rfl)
theorem e_leqWeb (n : Nat) (a0 : Int × List (Int × Int × Int × Bool)) (a1 : Int × List (Int × Int × Int × Bool)) : f_leqWeb n (a0, a1) =
  bif !decide (a0.1 = a1.1) then
   some (false, ())
  else Option.bind (g_leqLedgeS (a0.2, a1.2)) fun r0 =>
  bif !r0.1 then
   some (false, ())
  else some (true, ()) := by kernel_rfl
/- laws.eqEdge -/
def c_leqEdge : TC :=
 (.seq (.rg [o1 2 (.a (.t 0)),
   o1 3 (.a (.t 1)),
   o1 4 (.lit [.b] [.bool false])])
 (.seq (.seq (.rg [o1 5 (.idx .nil),
   o1 6 (.load 2 [] 0 (.t 5) 1 false),
   o1 7 (.idx .nil),
   o1 8 (.load 3 [] 0 (.t 7) 1 false),
   o1 9 (.data (.bin .neq) [.t 6, .t 8])])
 (.cond (.t 9)
  (.seq (.rg [o1 4 (.lit [.b] [.bool false])])
  .ret)
  .skip))
 (.seq (.seq (.rg [o1 10 (.idx .nil),
   o1 11 (.load 2 [] 1 (.t 10) 1 false),
   o1 12 (.idx .nil),
   o1 13 (.load 3 [] 1 (.t 12) 1 false),
   o1 14 (.data (.bin .neq) [.t 11, .t 13])])
 (.cond (.t 14)
  (.seq (.rg [o1 4 (.lit [.b] [.bool false])])
  .ret)
  .skip))
 (.seq (.rg [o1 4 (.lit [.b] [.bool true])])
 .ret))))
def s_leqEdge : Sig := ⟨[.rd true [.d, .d], .rd true [.d, .d]], (.one false [.d])⟩
noncomputable def E_leqEdge : TEnv := envOf []
noncomputable def f_leqEdge (n : Nat) : (Int × Int) × (Int × Int) → Option ((Bool) × Unit) := runFn n E_leqEdge c_leqEdge [[.i .i64, .i .i64], [.i .i64, .i .i64]] [.b] [] [4] .no
noncomputable def g_leqEdge := f_leqEdge BIG
noncomputable def p_leqEdge : TSp := ⟨s_leqEdge, [[.i .i64, .i .i64], [.i .i64, .i .i64]], [.b], [], Ou.j .no, g_leqEdge⟩
theorem k_leqEdge : chkW PG E_leqEdge 158 s_leqEdge (c_leqEdge.ht 15) .no = some (c_leqEdge.wc E_leqEdge, [4]) := by kernel_rfl
theorem ok_leqEdge : p_leqEdge.Ok PG 158 := mkOk (env_nil PG) k_leqEdge (by kernel_rfl)
theorem e_leqEdge (n : Nat) (a0 : Int × Int) (a1 : Int × Int) : f_leqEdge n (a0, a1) =
  bif !decide (a0.1 = a1.1) then
   some (false, ())
  else bif !decide (a0.2 = a1.2) then
   some (false, ())
  else some (true, ()) := by kernel_rfl
/- laws.eqEdgeS -/
def c_leqEdgeS : TC :=
 (.seq (.rg [o1 4 (.lit [.b] [.bool false])])
 (.seq (.seq (.rg [o1 6 (.copy 0),
   o1 7 (.len 6),
   o1 8 (.copy 1),
   o1 9 (.len 8),
   o1 10 (.data (.bin .neq) [.t 7, .t 9])])
 (.cond (.t 10)
  (.seq (.rg [o1 4 (.lit [.b] [.bool false])])
  .ret)
  .skip))
 (.seq (.join [] 134215728 (some [⟨4, [.b], false⟩]) (.seq (.rg [o1 5 (.lit [.i .i64] [.int .i64 (0)])])
 (.block 0 (.loop [⟨5, [.i .i64], false⟩] 134215728
  (.seq (.seq (.rg [o1 11 (.copy 5),
    o1 12 (.copy 0),
    o1 13 (.len 12),
    o1 14 (.data (.bin .lss) [.t 11, .t 13])])
  (.cond (.t 14)
   .skip
   (.exit 0)))
  (.seq (.block 1 (.seq (.rg [o1 17 (.copy 0),
    o1 18 (.copy 5),
    o1 19 (.index 17 (.t 18)),
    o1 20 (.load 17 [(0, 2)] 0 (.t 19) 2 false),
    o1 21 (.copy 1),
    o1 22 (.copy 5),
    o1 23 (.index 21 (.t 22)),
    o1 24 (.load 21 [(0, 2)] 0 (.t 23) 2 false),
    o3 25 158 [.t 20, .t 24],
    o1 26 (.data .not [.t 25])])
  (.cond (.t 26)
   (.seq (.rg [o1 4 (.lit [.b] [.bool false])])
   .ret)
   .skip)))
  (.rg [o1 15 (.copy 5),
    o1 16 (.data (.bin .add) [.t 15, .c (.int .i64 (1))]),
    o1 5 (.copy 16)])))))))
 (.seq (.rg [o1 4 (.lit [.b] [.bool true])])
 .ret))))
def s_leqEdgeS : Sig := ⟨[.rd false [.sl (.own none) [.d, .d]], .rd false [.sl (.own none) [.d, .d]]], (.one false [.d])⟩
noncomputable def E_leqEdgeS : TEnv := envOf [(158, p_leqEdge)]
noncomputable def f_leqEdgeS (n : Nat) : (List (Int × Int)) × (List (Int × Int)) → Option ((Bool) × Unit) := runFn n E_leqEdgeS c_leqEdgeS [[.sl [.i .i64, .i .i64]], [.sl [.i .i64, .i .i64]]] [.b] [] [4] .no
noncomputable def g_leqEdgeS := f_leqEdgeS BIG
noncomputable def p_leqEdgeS : TSp := ⟨s_leqEdgeS, [[.sl [.i .i64, .i .i64]], [.sl [.i .i64, .i .i64]]], [.b], [], Ou.j .no, g_leqEdgeS⟩
theorem k_leqEdgeS : chkW PG E_leqEdgeS 144 s_leqEdgeS (c_leqEdgeS.ht 27) .no = some (c_leqEdgeS.wc E_leqEdgeS, [4]) := by kernel_rfl
theorem ok_leqEdgeS : p_leqEdgeS.Ok PG 144 := mkOk (env_cons ok_leqEdge (env_nil PG)) k_leqEdgeS (by kernel_rfl)
theorem e_leqEdgeS (n : Nat) (a0 : List (Int × Int)) (a1 : List (Int × Int)) : f_leqEdgeS n (a0, a1) =
  bif !decide ((a0.length : Int) = (a1.length : Int)) then
   some (false, ())
  else Option.bind (loopT n (X := Int) (B := (Unit) ⊕ (Bool)) (fun self1 x0 =>
    bif decide (x0 < (a0.length : Int)) then
     bnd a0.length x0 fun n2 =>
     Option.bind a0[n2]? fun y3 =>
     bnd a1.length x0 fun n4 =>
     Option.bind a1[n4]? fun y5 =>
     Option.bind (g_leqEdge (y3, y5)) fun r6 =>
     bif !r6.1 then
      some (Sum.inr false)
     else self1 (IntKind.wrap .i64 (x0 + (1 : Int)))
    else some (Sum.inl ())) (0 : Int) : Option ((Unit) ⊕ (Bool))) fun y => match y with
  | .inl x7 =>
   some (true, ())
  | .inr x7 =>
   some (x7, ()) := by kernel_rfl
/- laws.eqIntS -/
def c_leqIntS : TC :=
 (.seq (.rg [o1 4 (.lit [.b] [.bool false])])
 (.seq (.seq (.rg [o1 6 (.copy 0),
   o1 7 (.len 6),
   o1 8 (.copy 1),
   o1 9 (.len 8),
   o1 10 (.data (.bin .neq) [.t 7, .t 9])])
 (.cond (.t 10)
  (.seq (.rg [o1 4 (.lit [.b] [.bool false])])
  .ret)
  .skip))
 (.seq (.join [] 67106864 (some [⟨4, [.b], false⟩]) (.seq (.rg [o1 5 (.lit [.i .i64] [.int .i64 (0)])])
 (.block 0 (.loop [⟨5, [.i .i64], false⟩] 67106864
  (.seq (.seq (.rg [o1 11 (.copy 5),
    o1 12 (.copy 0),
    o1 13 (.len 12),
    o1 14 (.data (.bin .lss) [.t 11, .t 13])])
  (.cond (.t 14)
   .skip
   (.exit 0)))
  (.seq (.block 1 (.seq (.rg [o1 17 (.copy 0),
    o1 18 (.copy 5),
    o1 19 (.index 17 (.t 18)),
    o1 20 (.load 17 [(0, 1)] 0 (.t 19) 1 false),
    o1 21 (.copy 1),
    o1 22 (.copy 5),
    o1 23 (.index 21 (.t 22)),
    o1 24 (.load 21 [(0, 1)] 0 (.t 23) 1 false),
    o1 25 (.data (.bin .neq) [.t 20, .t 24])])
  (.cond (.t 25)
   (.seq (.rg [o1 4 (.lit [.b] [.bool false])])
   .ret)
   .skip)))
  (.rg [o1 15 (.copy 5),
    o1 16 (.data (.bin .add) [.t 15, .c (.int .i64 (1))]),
    o1 5 (.copy 16)])))))))
 (.seq (.rg [o1 4 (.lit [.b] [.bool true])])
 .ret))))
def s_leqIntS : Sig := ⟨[.rd false [.sl (.own none) [.d]], .rd false [.sl (.own none) [.d]]], (.one false [.d])⟩
noncomputable def E_leqIntS : TEnv := envOf []
noncomputable def f_leqIntS (n : Nat) : List (Int) × List (Int) → Option ((Bool) × Unit) := runFn n E_leqIntS c_leqIntS [[.sl [.i .i64]], [.sl [.i .i64]]] [.b] [] [4] .no
noncomputable def g_leqIntS := f_leqIntS BIG
noncomputable def p_leqIntS : TSp := ⟨s_leqIntS, [[.sl [.i .i64]], [.sl [.i .i64]]], [.b], [], Ou.j .no, g_leqIntS⟩
theorem k_leqIntS : chkW PG E_leqIntS 145 s_leqIntS (c_leqIntS.ht 26) .no = some (c_leqIntS.wc E_leqIntS, [4]) := by kernel_rfl
theorem ok_leqIntS : p_leqIntS.Ok PG 145 := mkOk (env_nil PG) k_leqIntS (by kernel_rfl)
theorem e_leqIntS (n : Nat) (a0 : List (Int)) (a1 : List (Int)) : f_leqIntS n (a0, a1) =
  bif !decide ((a0.length : Int) = (a1.length : Int)) then
   some (false, ())
  else Option.bind (loopT n (X := Int) (B := (Unit) ⊕ (Bool)) (fun self1 x0 =>
    bif decide (x0 < (a0.length : Int)) then
     bnd a0.length x0 fun n2 =>
     Option.bind a0[n2]? fun y3 =>
     bnd a1.length x0 fun n4 =>
     Option.bind a1[n4]? fun y5 =>
     bif !decide (y3 = y5) then
      some (Sum.inr false)
     else self1 (IntKind.wrap .i64 (x0 + (1 : Int)))
    else some (Sum.inl ())) (0 : Int) : Option ((Unit) ⊕ (Bool))) fun y => match y with
  | .inl x6 =>
   some (true, ())
  | .inr x6 =>
   some (x6, ()) := by kernel_rfl
/- laws.eqAnswer -/
def c_leqAnswer : TC :=
 (.seq (.rg [o1 2 (.a (.t 0)),
   o1 3 (.a (.t 1)),
   o1 4 (.lit [.b] [.bool false])])
 (.seq (.seq (.rg [o1 5 (.idx .nil),
   o1 6 (.load 2 [] 0 (.t 5) 1 false),
   o1 7 (.idx .nil),
   o1 8 (.load 3 [] 0 (.t 7) 1 false),
   o1 9 (.data (.bin .neq) [.t 6, .t 8])])
 (.cond (.t 9)
  (.seq (.rg [o1 4 (.lit [.b] [.bool false])])
  .ret)
  .skip))
 (.seq (.seq (.rg [o1 10 (.idx .nil),
   o1 11 (.load 2 [] 1 (.t 10) 1 false),
   o1 12 (.idx .nil),
   o1 13 (.load 3 [] 1 (.t 12) 1 false),
   o1 14 (.data (.beq true) [.t 11, .t 13])])
 (.cond (.t 14)
  (.seq (.rg [o1 4 (.lit [.b] [.bool false])])
  .ret)
  .skip))
 (.seq (.seq (.rg [o1 15 (.idx .nil),
   o1 16 (.load 2 [] 2 (.t 15) 1 false),
   o1 17 (.idx .nil),
   o1 18 (.load 3 [] 2 (.t 17) 1 false),
   o3 19 144 [.t 16, .t 18],
   o1 20 (.data .not [.t 19])])
 (.cond (.t 20)
  (.seq (.rg [o1 4 (.lit [.b] [.bool false])])
  .ret)
  .skip))
 (.seq (.seq (.rg [o1 21 (.idx .nil),
   o1 22 (.load 2 [] 3 (.t 21) 1 false),
   o1 23 (.idx .nil),
   o1 24 (.load 3 [] 3 (.t 23) 1 false),
   o3 25 145 [.t 22, .t 24],
   o1 26 (.data .not [.t 25])])
 (.cond (.t 26)
  (.seq (.rg [o1 4 (.lit [.b] [.bool false])])
  .ret)
  .skip))
 (.seq (.rg [o1 4 (.lit [.b] [.bool true])])
 .ret))))))
def s_leqAnswer : Sig := ⟨[.rd true [.d, .d, .sl (.own none) [.d, .d], .sl (.own none) [.d]], .rd true [.d, .d, .sl (.own none) [.d, .d], .sl (.own none) [.d]]], (.one false [.d])⟩
noncomputable def E_leqAnswer : TEnv := envOf [(144, p_leqEdgeS), (145, p_leqIntS)]
noncomputable def f_leqAnswer (n : Nat) : (Int × Bool × List (Int × Int) × List (Int)) × (Int × Bool × List (Int × Int) × List (Int)) → Option ((Bool) × Unit) := runFn n E_leqAnswer c_leqAnswer [[.i .i64, .b, .sl [.i .i64, .i .i64], .sl [.i .i64]], [.i .i64, .b, .sl [.i .i64, .i .i64], .sl [.i .i64]]] [.b] [] [4] .no
noncomputable def g_leqAnswer := f_leqAnswer BIG
noncomputable def p_leqAnswer : TSp := ⟨s_leqAnswer, [[.i .i64, .b, .sl [.i .i64, .i .i64], .sl [.i .i64]], [.i .i64, .b, .sl [.i .i64, .i .i64], .sl [.i .i64]]], [.b], [], Ou.j .no, g_leqAnswer⟩
theorem k_leqAnswer : chkW PG E_leqAnswer 98 s_leqAnswer (c_leqAnswer.ht 27) .no = some (c_leqAnswer.wc E_leqAnswer, [4]) := by kernel_rfl
theorem ok_leqAnswer : p_leqAnswer.Ok PG 98 := mkOk (env_cons ok_leqEdgeS (env_cons ok_leqIntS (env_nil PG))) k_leqAnswer (by kernel_rfl)
theorem e_leqAnswer (n : Nat) (a0 : Int × Bool × List (Int × Int) × List (Int)) (a1 : Int × Bool × List (Int × Int) × List (Int)) : f_leqAnswer n (a0, a1) =
  bif !decide (a0.1 = a1.1) then
   some (false, ())
  else bif !(a0.2.1 == a1.2.1) then
   some (false, ())
  else Option.bind (g_leqEdgeS (a0.2.2.1, a1.2.2.1)) fun r0 =>
  bif !r0.1 then
   some (false, ())
  else Option.bind (g_leqIntS (a0.2.2.2, a1.2.2.2)) fun r1 =>
  bif !r1.1 then
   some (false, ())
  else some (true, ()) := by kernel_rfl
/- laws.eqShard -/
def c_leqShard : TC :=
 (.seq (.rg [o1 2 (.a (.t 0)),
   o1 3 (.a (.t 1)),
   o1 4 (.lit [.b] [.bool false])])
 (.seq (.seq (.rg [o1 5 (.idx .nil),
   o1 6 (.load 2 [] 0 (.t 5) 1 false),
   o1 7 (.idx .nil),
   o1 8 (.load 3 [] 0 (.t 7) 1 false),
   o1 9 (.data (.bin .neq) [.t 6, .t 8])])
 (.cond (.t 9)
  (.seq (.rg [o1 4 (.lit [.b] [.bool false])])
  .ret)
  .skip))
 (.seq (.seq (.rg [o1 10 (.idx .nil),
   o1 11 (.load 2 [] 1 (.t 10) 2 false),
   o1 12 (.idx .nil),
   o1 13 (.load 3 [] 1 (.t 12) 2 false),
   o3 14 97 [.t 11, .t 13],
   o1 15 (.data .not [.t 14])])
 (.cond (.t 15)
  (.seq (.rg [o1 4 (.lit [.b] [.bool false])])
  .ret)
  .skip))
 (.seq (.seq (.rg [o1 16 (.idx .nil),
   o1 17 (.load 2 [] 3 (.t 16) 4 false),
   o1 18 (.idx .nil),
   o1 19 (.load 3 [] 3 (.t 18) 4 false),
   o3 20 98 [.t 17, .t 19],
   o1 21 (.data .not [.t 20])])
 (.cond (.t 21)
  (.seq (.rg [o1 4 (.lit [.b] [.bool false])])
  .ret)
  .skip))
 (.seq (.rg [o1 4 (.lit [.b] [.bool true])])
 .ret)))))
def s_leqShard : Sig := ⟨[.rd true [.d, .d, .sl (.own none) [.d, .d, .d, .d], .d, .d, .sl (.own none) [.d, .d], .sl (.own none) [.d]], .rd true [.d, .d, .sl (.own none) [.d, .d, .d, .d], .d, .d, .sl (.own none) [.d, .d], .sl (.own none) [.d]]], (.one false [.d])⟩
noncomputable def E_leqShard : TEnv := envOf [(97, p_leqWeb), (98, p_leqAnswer)]
noncomputable def f_leqShard (n : Nat) : (Int × Int × List (Int × Int × Int × Bool) × Int × Bool × List (Int × Int) × List (Int)) × (Int × Int × List (Int × Int × Int × Bool) × Int × Bool × List (Int × Int) × List (Int)) → Option ((Bool) × Unit) := runFn n E_leqShard c_leqShard [[.i .i64, .i .i64, .sl [.i .i64, .i .i64, .i .i64, .b], .i .i64, .b, .sl [.i .i64, .i .i64], .sl [.i .i64]], [.i .i64, .i .i64, .sl [.i .i64, .i .i64, .i .i64, .b], .i .i64, .b, .sl [.i .i64, .i .i64], .sl [.i .i64]]] [.b] [] [4] .no
noncomputable def g_leqShard := f_leqShard BIG
noncomputable def p_leqShard : TSp := ⟨s_leqShard, [[.i .i64, .i .i64, .sl [.i .i64, .i .i64, .i .i64, .b], .i .i64, .b, .sl [.i .i64, .i .i64], .sl [.i .i64]], [.i .i64, .i .i64, .sl [.i .i64, .i .i64, .i .i64, .b], .i .i64, .b, .sl [.i .i64, .i .i64], .sl [.i .i64]]], [.b], [], Ou.j .no, g_leqShard⟩
theorem k_leqShard : chkW PG E_leqShard 38 s_leqShard (c_leqShard.ht 22) .no = some (c_leqShard.wc E_leqShard, [4]) := by kernel_rfl
theorem ok_leqShard : p_leqShard.Ok PG 38 := mkOk (env_cons ok_leqWeb (env_cons ok_leqAnswer (env_nil PG))) k_leqShard (by kernel_rfl)
theorem e_leqShard (n : Nat) (a0 : Int × Int × List (Int × Int × Int × Bool) × Int × Bool × List (Int × Int) × List (Int)) (a1 : Int × Int × List (Int × Int × Int × Bool) × Int × Bool × List (Int × Int) × List (Int)) : f_leqShard n (a0, a1) =
  bif !decide (a0.1 = a1.1) then
   some (false, ())
  else Option.bind (g_leqWeb ((a0.2.1, a0.2.2.1), (a1.2.1, a1.2.2.1))) fun r0 =>
  bif !r0.1 then
   some (false, ())
  else Option.bind (g_leqAnswer (a0.2.2.2, a1.2.2.2)) fun r1 =>
  bif !r1.1 then
   some (false, ())
  else some (true, ()) := by kernel_rfl
end Go.Fw
